import PyProof.Rows.All
import Wide.All
import OpenK.AllK
import Wide.FinOn
import PySem.Challenge.RW_neverdearer_k04_names_and_what_stands_in
import HandS.ForMost
import HandS.ForExc
import HandS.Defaults
import HandS.Walk
import HandS.Flow
import HandS.Style
import HandS.IsInst
import HandS.TupAny
import HandS.TupMul
import HandS.Wide
import HandS.WideBits
import HandS.Deep
import HandS.SortInts
import HandS.NoneIn
import HandS.Zip
import HandS.EndBits
import HandS.HeadEnd
import HandS.Head0
import HandS.Head1
import HandS.Head2
import HandS.HeadHook1
import HandS.HeadHook2
import HandS.Dict
import HandS.DictComp
import HandS.Text
import HandS.MakeKw
import HandS.Strs
import HandS.TupSets
import PyProof.CallFns
import PyProof.ReprRoads
import HandS.SetFor
import HandS.More
import PyProof.Rows.SortShellAny
import PyProof.SumAny
import PyProof.StrLawsRepr
import PyProof.P3Eq
set_option Elab.async false
set_option linter.all false
set_option maxRecDepth 100000
/-! DL1: data without the heap, what stands for it in the heap, steps, outcomes, judgements. -/
namespace Dl
open PySem PySem.Spec PyProof.Rows L2
/-- data as trees; own c: a container that one slot alone holds -/
inductive D where
  | non
  | bl (b : Bool)
  | int (i : Int)
  | str (x : Str)
  | tup (l : List D)
  | lst (l : List D)
  | dct (l : List (Key × D))
  | ins (c : Nat) (fs : List (Str × D))
  | scr (l : List Int)
  | own (d : D)
structure RX where
  K : PySem.W.Frag
  cla : Nat → Addr
/-- a list that is locked, or of the written part -/
def FAt (K : PySem.W.Frag) (H : Hp) (a : Addr) (xs : List V) : Prop := (∃ o, H a = some (.frz o (.lst xs))) ∨
  ∃ (o : Obj) (its : Array Value) (n : Nat), K.lookup a = some o ∧ o.cls = .type "list" ∧ o.dict = none ∧ o.data = .seq its n ∧ its.size ≤ sizeLine ∧ Vals xs its.toList
theorem FAt.sq {K : PySem.W.Frag} {H : Hp} {a : Addr} {xs : List V} (h : FAt K H a xs) : SqL K H a xs := by
  rcases h with h | h
  · exact .inl (.inr h)
  · exact .inr h
mutual
inductive Rep (R : RX) (I : Addr → Prop) (H : Hp) : V → D → Prop
  | non : Rep R I H .non .non
  | bl (b : Bool) : Rep R I H (.bl b) (.bl b)
  | int (i : Int) : Rep R I H (.int i) (.int i)
  | str (x : Str) : Rep R I H (.str x) (.str x)
  | tup {a : Addr} {xs : List V} {ds : List D} : SqT R.K H a xs → Reps R I H xs ds → Rep R I H (.ref a) (.tup ds)
  | lst {a : Addr} {xs : List V} {ds : List D} : I a → H a = some (.lst xs) → Reps R I H xs ds → Rep R I H (.ref a) (.lst ds)
  | scr {a : Addr} {ns : List Int} : FAt R.K H a (ns.map V.int) → Rep R I H (.ref a) (.scr ns)
  | dct {a : Addr} {kvs : List (Key × V)} {kds : List (Key × D)} : I a → Rd H a (.dK kvs) → RepK R I H kvs kds → Rep R I H (.ref a) (.dct kds)
  | ins {a dx : Addr} {c : Nat} {fs : List (Str × V)} {fds : List (Str × D)} : I a → H a = some (.ins (R.cla c) dx fs) → RepF R I H fs fds → Rep R I H (.ref a) (.ins c fds)
inductive Reps (R : RX) (I : Addr → Prop) (H : Hp) : List V → List D → Prop
  | nil : Reps R I H [] []
  | cons {v : V} {vs : List V} {d : D} {ds : List D} : Rep R I H v d → Reps R I H vs ds → Reps R I H (v :: vs) (d :: ds)
inductive RepK (R : RX) (I : Addr → Prop) (H : Hp) : List (Key × V) → List (Key × D) → Prop
  | nil : RepK R I H [] []
  | cons {k : Key} {v : V} {vs : List (Key × V)} {d : D} {ds : List (Key × D)} : Rep R I H v d → RepK R I H vs ds → RepK R I H ((k, v) :: vs) ((k, d) :: ds)
inductive RepF (R : RX) (I : Addr → Prop) (H : Hp) : List (Str × V) → List (Str × D) → Prop
  | nil : RepF R I H [] []
  | cons {k : Str} {v : V} {vs : List (Str × V)} {d : D} {ds : List (Str × D)} : Rep R I H v d → RepF R I H vs ds → RepF R I H ((k, v) :: vs) ((k, d) :: ds)
end
/-- what was laid stays -/
structure Ext (I : Addr → Prop) (H H' : Hp) : Prop where
  i : ∀ a o, I a → H a = some o → H' a = some o
  t : ∀ a xs, H a = some (.tup xs) → H' a = some (.tup xs)
  f : ∀ a o u, H a = some (.frz o u) → H' a = some (.frz o u)
theorem Ext.sqt {K : PySem.W.Frag} {I : Addr → Prop} {H H' : Hp} {a : Addr} {xs : List V} (e : Ext I H H') (h : SqT K H a xs) : SqT K H' a xs := by
  rcases h with (h | ⟨o, h⟩) | h
  · exact .inl (.inl (e.t _ _ h))
  · exact .inl (.inr ⟨o, e.f _ _ _ h⟩)
  · exact .inr h
theorem Ext.fat {K : PySem.W.Frag} {I : Addr → Prop} {H H' : Hp} {a : Addr} {xs : List V} (e : Ext I H H') (h : FAt K H a xs) : FAt K H' a xs := by
  rcases h with ⟨o, h⟩ | h
  · exact .inl ⟨o, e.f _ _ _ h⟩
  · exact .inr h
theorem Ext.rd {I : Addr → Prop} {H H' : Hp} {a : Addr} {u : HO} (e : Ext I H H') (hi : I a) (h : Rd H a u) : Rd H' a u := by
  rcases h with h | ⟨o, h⟩
  · exact .inl (e.i _ _ hi h)
  · exact .inr ⟨o, e.f _ _ _ h⟩
theorem _root_.L2.Rd.ne {H : Hp} {a : Addr} {u : HO} (h : Rd H a u) : H a ≠ none := by
  rcases h with h | ⟨o, h⟩ <;> (rw [h]; exact Option.some_ne_none _)
section
variable {R : RX} {I I' : Addr → Prop} {H H' : Hp}
mutual
theorem Rep.ext (e : Ext I H H') (hi : ∀ a, I a → I' a) : ∀ {v : V} {d : D}, Rep R I H v d → Rep R I' H' v d
  | _, _, .non => .non
  | _, _, .bl b => .bl b
  | _, _, .int i => .int i
  | _, _, .str x => .str x
  | _, _, .tup h r => .tup (e.sqt h) (Reps.ext e hi r)
  | _, _, .lst h1 h2 r => .lst (hi _ h1) (e.i _ _ h1 h2) (Reps.ext e hi r)
  | _, _, .scr h => .scr (e.fat h)
  | _, _, .dct h1 h2 r => .dct (hi _ h1) (e.rd h1 h2) (RepK.ext e hi r)
  | _, _, .ins h1 h2 r => .ins (hi _ h1) (e.i _ _ h1 h2) (RepF.ext e hi r)
theorem Reps.ext (e : Ext I H H') (hi : ∀ a, I a → I' a) : ∀ {v : List V} {d : List D}, Reps R I H v d → Reps R I' H' v d
  | _, _, .nil => .nil
  | _, _, .cons h r => .cons (Rep.ext e hi h) (Reps.ext e hi r)
theorem RepK.ext (e : Ext I H H') (hi : ∀ a, I a → I' a) : ∀ {v : List (Key × V)} {d : List (Key × D)}, RepK R I H v d → RepK R I' H' v d
  | _, _, .nil => .nil
  | _, _, .cons h r => .cons (Rep.ext e hi h) (RepK.ext e hi r)
theorem RepF.ext (e : Ext I H H') (hi : ∀ a, I a → I' a) : ∀ {v : List (Str × V)} {d : List (Str × D)}, RepF R I H v d → RepF R I' H' v d
  | _, _, .nil => .nil
  | _, _, .cons h r => .cons (Rep.ext e hi h) (RepF.ext e hi r)
end
end
section
variable {R : RX} {I : Addr → Prop} {H : Hp}
mutual
theorem Rep.trk : ∀ {v : V} {d : D}, Rep R I H v d → Rep R (fun a => I a ∧ H a ≠ none) H v d
  | _, _, .non => .non
  | _, _, .bl b => .bl b
  | _, _, .int i => .int i
  | _, _, .str x => .str x
  | _, _, .tup h r => .tup h (Reps.trk r)
  | _, _, .lst h1 h2 r => .lst ⟨h1, by rw [h2]; exact Option.some_ne_none _⟩ h2 (Reps.trk r)
  | _, _, .scr h => .scr h
  | _, _, .dct h1 h2 r => .dct ⟨h1, h2.ne⟩ h2 (RepK.trk r)
  | _, _, .ins h1 h2 r => .ins ⟨h1, by rw [h2]; exact Option.some_ne_none _⟩ h2 (RepF.trk r)
theorem Reps.trk : ∀ {v : List V} {d : List D}, Reps R I H v d → Reps R (fun a => I a ∧ H a ≠ none) H v d
  | _, _, .nil => .nil
  | _, _, .cons h r => .cons (Rep.trk h) (Reps.trk r)
theorem RepK.trk : ∀ {v : List (Key × V)} {d : List (Key × D)}, RepK R I H v d → RepK R (fun a => I a ∧ H a ≠ none) H v d
  | _, _, .nil => .nil
  | _, _, .cons h r => .cons (Rep.trk h) (RepK.trk r)
theorem RepF.trk : ∀ {v : List (Str × V)} {d : List (Str × D)}, RepF R I H v d → RepF R (fun a => I a ∧ H a ≠ none) H v d
  | _, _, .nil => .nil
  | _, _, .cons h r => .cons (Rep.trk h) (RepF.trk r)
end
end
theorem Ext.refl {I : Addr → Prop} {H : Hp} : Ext I H H := ⟨fun _ _ _ h => h, fun _ _ h => h, fun _ _ _ h => h⟩
theorem Ext.same {I : Addr → Prop} {H H' : Hp} (h : Same H H') : Ext I H H' := ⟨fun _ _ _ e => h _ _ e, fun _ _ e => h _ _ e, fun _ _ _ e => h _ _ e⟩
/-- an own container, with its footprint -/
def ORep (R : RX) (I : Addr → Prop) (H : Hp) (v : V) (c : D) (Fo : Addr → Prop) : Prop := match c with
  | .lst ds => ∃ p xs, v = .ref p ∧ H p = some (.lst xs) ∧ Reps R I H xs ds ∧ ∀ a, Fo a ↔ a = p
  | .dct kds => ∃ p kvs, v = .ref p ∧ H p = some (.dK kvs) ∧ RepK R I H kvs kds ∧ ∀ a, Fo a ↔ a = p
  | _ => False
abbrev Env := List (Option D)
abbrev Fps := Nat → Addr → Prop
def SlotOk (R : RX) (I : Addr → Prop) (H : Hp) (g : Option (Option D)) (s : Option (Option V)) (F : Addr → Prop) : Prop :=
  match g with
  | some (some (.own c)) => ∃ v, s = some (some v) ∧ ORep R I H v c F
  | some (some d) => (∃ v, s = some (some v) ∧ Rep R I H v d) ∧ ∀ a, ¬ F a
  | _ => ∀ a, ¬ F a
/-- the slots hold these data -/
structure SA (R : RX) (I : Addr → Prop) (F : Fps) (Γ : Env) (σ : L2.St) (H : Hp) : Prop where
  len : Γ.length = σ.length
  ok : ∀ i : Nat, SlotOk R I H Γ[i]? σ[i]? (F i)
  dis : ∀ i j a, F i a → F j a → i = j
  apt : ∀ i a, F i a → ¬ I a
  itr : ∀ a, I a → H a ≠ none
  trk : ∀ i a, F i a → ∃ o, H a = some o ∧ (∀ xs, o ≠ .tup xs) ∧ ∀ ob u, o ≠ .frz ob u
/-- the frozen region with what the slots of B own -/
def J (I : Addr → Prop) (F : Fps) (B : List Nat) : Addr → Prop := fun a => I a ∨ ∃ i, i ∈ B ∧ F i a
theorem J.of {I : Addr → Prop} {F : Fps} {B : List Nat} {a : Addr} (h : I a) : J I F B a := .inl h
theorem J.mono {I : Addr → Prop} {F : Fps} {B B' : List Nat} (h : ∀ i ∈ B, i ∈ B') : ∀ a, J I F B a → J I F B' a := fun a x => by
  rcases x with x | ⟨i, hi, x⟩
  · exact .inl x
  · exact .inr ⟨i, h i hi, x⟩
/-- a step that may change what the slots of W own -/
structure Stp (W : List Nat) (I : Addr → Prop) (F : Fps) (H : Hp) (I' : Addr → Prop) (F' : Fps) (H' : Hp) : Prop where
  keep : ∀ a o, H a = some o → (∀ i ∈ W, ¬ F i a) → H' a = some o
  same : ∀ i, i ∉ W → ∀ a, F i a → F' i a
  fre : ∀ i a, F' i a → (∃ j ∈ W, F j a) ∨ F i a ∨ H a = none
  ifr : ∀ a, I' a → I a ∨ (∃ j ∈ W, F j a) ∨ H a = none
  imo : ∀ a, I a → I' a
  dom : ∀ a, H' a = none → H a = none
theorem Stp.refl {W : List Nat} {I : Addr → Prop} {F : Fps} {H : Hp} : Stp W I F H I F H :=
  ⟨fun _ _ h _ => h, fun _ _ _ h => h, fun _ _ h => .inr (.inl h), fun _ h => .inl h, fun _ h => h, fun _ h => h⟩
theorem Stp.mono {W W' : List Nat} {I I' : Addr → Prop} {F F' : Fps} {H H' : Hp} (s : Stp W I F H I' F' H') (h : ∀ i ∈ W, i ∈ W') : Stp W' I F H I' F' H' :=
  ⟨fun a o e n => s.keep a o e fun i hi => n i (h i hi), fun i hi => s.same i fun x => hi (h i x), fun i a x => by
    rcases s.fre i a x with ⟨j, hj, y⟩ | y
    · exact .inl ⟨j, h j hj, y⟩
    · exact .inr y, fun a x => by
    rcases s.ifr a x with y | ⟨j, hj, y⟩ | y
    · exact .inl y
    · exact .inr (.inl ⟨j, h j hj, y⟩)
    · exact .inr (.inr y), s.imo, s.dom⟩
theorem Stp.trans {W1 W2 W : List Nat} {I0 I1 I2 : Addr → Prop} {F0 F1 F2 : Fps} {H0 H1 H2 : Hp} (s : Stp W1 I0 F0 H0 I1 F1 H1) (t : Stp W2 I1 F1 H1 I2 F2 H2)
    (h1 : ∀ i ∈ W1, i ∈ W) (h2 : ∀ i ∈ W2, i ∈ W) : Stp W I0 F0 H0 I2 F2 H2 := by
  have back : ∀ j a, F1 j a → (∃ i ∈ W, F0 i a) ∨ F0 j a ∨ H0 a = none := fun j a x => by
    rcases s.fre j a x with ⟨i, hi, y⟩ | y
    · exact .inl ⟨i, h1 i hi, y⟩
    · exact .inr y
  refine ⟨fun a o e n => ?_, fun i hi a x => t.same i (fun z => hi (h2 i z)) a (s.same i (fun z => hi (h1 i z)) a x), fun i a x => ?_, fun a x => ?_, fun a x => t.imo a (s.imo a x), fun a x => s.dom a (t.dom a x)⟩
  · refine t.keep a o (s.keep a o e fun i hi => n i (h1 i hi)) fun i hi x => ?_
    rcases back i a x with ⟨j, hj, y⟩ | y | y
    · exact n j hj y
    · exact n i (h2 i hi) y
    · rw [y] at e; cases e
  · rcases t.fre i a x with ⟨j, hj, y⟩ | y | y
    · rcases back j a y with z | z | z
      · exact .inl z
      · exact .inl ⟨j, h2 j hj, z⟩
      · exact .inr (.inr z)
    · exact back i a y
    · exact .inr (.inr (s.dom a y))
  · rcases t.ifr a x with y | ⟨j, hj, y⟩ | y
    · rcases s.ifr a y with z | ⟨j, hj, z⟩ | z
      · exact .inl z
      · exact .inr (.inl ⟨j, h1 j hj, z⟩)
      · exact .inr (.inr z)
    · rcases back j a y with z | z | z
      · exact .inr (.inl z)
      · exact .inr (.inl ⟨j, h2 j hj, z⟩)
      · exact .inr (.inr z)
    · exact .inr (.inr (s.dom a y))
section
variable {R : RX} {I I' : Addr → Prop} {F F' : Fps} {Γ : Env} {σ : L2.St} {H H' : Hp} {W B : List Nat}
theorem SA.ext (sa : SA R I F Γ σ H) (s : Stp W I F H I' F' H') (hd : ∀ i ∈ B, i ∉ W) : Ext (J I F B) H H' := by
  refine ⟨fun a o x e => s.keep a o e fun i hi y => ?_, fun a xs e => s.keep a _ e fun i hi y => ?_, fun a ob u e => s.keep a _ e fun i hi y => ?_⟩
  · rcases x with x | ⟨j, hj, x⟩
    · exact sa.apt i a y x
    · exact hd j hj (sa.dis _ _ _ y x ▸ hi)
  · obtain ⟨o, e', h1, _⟩ := sa.trk i a y
    rw [e] at e'; cases e'
    exact h1 xs rfl
  · obtain ⟨o, e', _, h1⟩ := sa.trk i a y
    rw [e] at e'; cases e'
    exact h1 ob u rfl
theorem Stp.j (s : Stp W I F H I' F' H') (hd : ∀ i ∈ B, i ∉ W) : ∀ a, J I F B a → J I' F' B a := fun a x => by
  rcases x with x | ⟨i, hi, x⟩
  · exact .inl (s.imo a x)
  · exact .inr ⟨i, hi, s.same i (hd i hi) a x⟩
theorem Rep.stp (sa : SA R I F Γ σ H) (s : Stp W I F H I' F' H') (hd : ∀ i ∈ B, i ∉ W) {v : V} {d : D} (h : Rep R (J I F B) H v d) : Rep R (J I' F' B) H' v d := h.ext (sa.ext s hd) (s.j hd)
theorem Reps.stp (sa : SA R I F Γ σ H) (s : Stp W I F H I' F' H') (hd : ∀ i ∈ B, i ∉ W) {v : List V} {d : List D} (h : Reps R (J I F B) H v d) : Reps R (J I' F' B) H' v d := h.ext (sa.ext s hd) (s.j hd)
theorem Rep.reg {I I' : Addr → Prop} {v : V} {d : D} (h : Rep R I H v d) (hi : ∀ a, I a → I' a) : Rep R I' H v d := h.ext .refl hi
theorem Reps.reg {I I' : Addr → Prop} {v : List V} {d : List D} (h : Reps R I H v d) (hi : ∀ a, I a → I' a) : Reps R I' H v d := h.ext .refl hi
theorem RepK.reg {I I' : Addr → Prop} {v : List (Key × V)} {d : List (Key × D)} (h : RepK R I H v d) (hi : ∀ a, I a → I' a) : RepK R I' H v d := h.ext .refl hi
theorem ORep.ext {v : V} {c : D} {Fo : Addr → Prop} (e : Ext I H H') (hi : ∀ a, I a → I' a) (hf : ∀ a o, Fo a → H a = some o → H' a = some o) (h : ORep R I H v c Fo) : ORep R I' H' v c Fo := by
  unfold ORep at h ⊢
  split at h
  · obtain ⟨p, xs, h1, h2, h3, h4⟩ := h
    exact ⟨p, xs, h1, hf _ _ ((h4 _).mpr rfl) h2, h3.ext e hi, h4⟩
  · obtain ⟨p, xs, h1, h2, h3, h4⟩ := h
    exact ⟨p, xs, h1, hf _ _ ((h4 _).mpr rfl) h2, h3.ext e hi, h4⟩
  · exact h
/-- all that stood stands, the region has grown by new addresses -/
theorem SA.grow (sa : SA R I F Γ σ H) (sm : Same H H') (hi : ∀ a, I a → I' a) (hf : ∀ a, I' a → I a ∨ H a = none) (ht : ∀ a, I' a → H' a ≠ none) : SA R I' F Γ σ H' := by
  refine ⟨sa.len, fun i => ?_, sa.dis, fun i a x y => ?_, ht, fun i a x => ?_⟩
  · have h := sa.ok i
    unfold SlotOk at h ⊢
    split at h
    · obtain ⟨v, e, h⟩ := h
      exact ⟨v, e, h.ext (.same sm) hi fun _ _ _ e => sm _ _ e⟩
    · obtain ⟨⟨v, e, h⟩, n⟩ := h
      exact ⟨⟨v, e, h.ext (.same sm) hi⟩, n⟩
    · exact h
  · rcases hf a y with z | z
    · exact sa.apt i a x z
    · obtain ⟨o, e, _⟩ := sa.trk i a x
      rw [z] at e; cases e
  · obtain ⟨o, e, h⟩ := sa.trk i a x
    exact ⟨o, sm _ _ e, h⟩
theorem SA.same (sa : SA R I F Γ σ H) (sm : Same H H') : SA R I F Γ σ H' := sa.grow sm (fun _ h => h) (fun _ h => .inl h) fun a x => by
  obtain ⟨o, e⟩ := Option.ne_none_iff_exists'.mp (sa.itr a x)
  rw [sm _ _ e]
  exact Option.some_ne_none o
theorem Stp.grow (sm : Same H H') (hi : ∀ a, I a → I' a) (hf : ∀ a, I' a → I a ∨ H a = none) : Stp W I F H I' F H' :=
  ⟨fun a o e _ => sm a o e, fun _ _ _ h => h, fun _ _ h => .inr (.inl h), fun a h => by
    rcases hf a h with z | z
    · exact .inl z
    · exact .inr (.inr z), hi, fun a h => sm.free h⟩
end
/-! ### outcomes -/
structure Exc where
  c : Nat
  fs : List (Str × D)
inductive Out (α : Type) where
  | ok (a : α) (Γ : Env)
  | exc (x : Exc) (Γ : Env)
  | bad
abbrev M (α : Type) := Env → Out α
def Out.bind {α β : Type} (o : Out α) (f : α → Env → Out β) : Out β := match o with
  | .ok a Γ => f a Γ
  | .exc x Γ => .exc x Γ
  | .bad => .bad
@[simp] theorem Out.bind_ok {α β : Type} (a : α) (Γ : Env) (f : α → Env → Out β) : (Out.ok a Γ).bind f = f a Γ := rfl
@[simp] theorem Out.bind_bad {α β : Type} (f : α → Env → Out β) : (Out.bad : Out α).bind f = .bad := rfl
@[simp] theorem Out.bind_exc {α β : Type} (x : Exc) (Γ : Env) (f : α → Env → Out β) : (Out.exc x Γ : Out α).bind f = .exc x Γ := rfl
def optO {α : Type} (z : Option α) (Γ : Env) : Out α := match z with
  | some z => .ok z Γ
  | none => .bad
@[simp] theorem optO_some {α : Type} (z : α) (Γ : Env) : optO (some z) Γ = .ok z Γ := rfl
@[simp] theorem optO_none {α : Type} (Γ : Env) : optO (none : Option α) Γ = .bad := rfl
def XRep (R : RX) (I : Addr → Prop) (H : Hp) (x : Exc) (cls : Value) (dx : Option Addr) : Prop :=
  cls = .ref (R.cla x.c) ∧ ∃ d fs, dx = some d ∧ H d = some (.xd fs) ∧ RepF R I H fs x.fs
def Go {α : Type} (R : RX) (Wx : WX) (W : List Nat) (I : Addr → Prop) (F : Fps) (σ : L2.St) (H : Hp) (o : Out α) (k : α → Env → (Addr → Prop) → Fps → Hp → Prop) : Prop := match o with
  | .ok a Γ' => ∀ I' F' H', SA R I' F' Γ' σ H' → Stp W I F H I' F' H' → k a Γ' I' F' H'
  | .exc x Γ' => ∀ I' F' H' cls dx, SA R I' F' Γ' σ H' → Stp W I F H I' F' H' → XRep R I' H' x cls dx → Wx cls dx σ H'
  | .bad => False
section
variable {R : RX} {Wx : WX} {W W1 W2 B : List Nat} {I I' : Addr → Prop} {F F' : Fps} {Γ : Env} {σ : L2.St} {H H' : Hp}
theorem Go.bind {α β : Type} {o : Out α} {f : α → Env → Out β} {k : β → Env → (Addr → Prop) → Fps → Hp → Prop} (h : Go R Wx W I F σ H (o.bind f) k) (h1 : ∀ i ∈ W1, i ∈ W) (h2 : ∀ i ∈ W2, i ∈ W) :
    Go R Wx W1 I F σ H o (fun a Γ1 I1 F1 H1 => Go R Wx W2 I1 F1 σ H1 (f a Γ1) k) := by
  cases o with
  | bad => exact h
  | exc x Γ1 => exact fun I' F' H' cls dx sa s => h I' F' H' cls dx sa (s.mono h1)
  | ok a Γ1 =>
    intro I1 F1 H1 sa1 s1
    have h : Go R Wx W I F σ H (f a Γ1) k := h
    cases e : f a Γ1 with
    | bad => rw [e] at h; exact h
    | exc x Γ2 =>
      rw [e] at h
      exact fun I' F' H' cls dx sa s => h I' F' H' cls dx sa (s1.trans s h1 h2)
    | ok b Γ2 =>
      rw [e] at h
      exact fun I' F' H' sa s => h I' F' H' sa (s1.trans s h1 h2)
theorem Go.imp {α : Type} {o : Out α} {k k' : α → Env → (Addr → Prop) → Fps → Hp → Prop} (h : Go R Wx W I F σ H o k) (f : ∀ a Γ' I' F' H', SA R I' F' Γ' σ H' → Stp W I F H I' F' H' → k a Γ' I' F' H' → k' a Γ' I' F' H') : Go R Wx W I F σ H o k' := by
  cases o with
  | bad => exact h
  | exc x Γ1 => exact h
  | ok a Γ1 => exact fun I' F' H' sa s => f _ _ _ _ _ sa s (h I' F' H' sa s)
theorem Go.mono {α : Type} {o : Out α} {k : α → Env → (Addr → Prop) → Fps → Hp → Prop} (h : Go R Wx W I F σ H o k) (h1 : ∀ i ∈ W1, i ∈ W) : Go R Wx W1 I F σ H o k := by
  cases o with
  | bad => exact h
  | exc x Γ1 => exact fun I' F' H' cls dx sa s => h I' F' H' cls dx sa (s.mono h1)
  | ok a Γ1 => exact fun I' F' H' sa s => h I' F' H' sa (s.mono h1)
/-- where one stands -/
theorem Go.here {α : Type} {a : α} {k : α → Env → (Addr → Prop) → Fps → Hp → Prop} (h : Go R Wx W I F σ H (.ok a Γ) k) (sa : SA R I F Γ σ H) : k a Γ I F H := h I F H sa .refl
/-- behind new objects -/
theorem Go.grown {α : Type} {a : α} {k : α → Env → (Addr → Prop) → Fps → Hp → Prop} (h : Go R Wx W I F σ H (.ok a Γ) k) (sa : SA R I F Γ σ H) (sm : Same H H') (hi : ∀ a, I a → I' a) (hf : ∀ a, I' a → I a ∨ H a = none) (ht : ∀ a, I' a → H' a ≠ none) : k a Γ I' F H' :=
  h I' F H' (sa.grow sm hi hf ht) (.grow sm hi hf)
/-! ### readings -/
def kE (R : RX) (B : List Nat) (Q : VK) : D → Env → (Addr → Prop) → Fps → Hp → Prop := fun d _ I' F' H' => ∀ v, Rep R (J I' F' B) H' v d → Q v H'
def tD (R : RX) (Wx : WX) (f : M D) (B W : List Nat) : TE := fun σ H Q => ∃ Γ I F, SA R I F Γ σ H ∧ Go R Wx W I F σ H (f Γ) (kE R B Q)
def kA (R : RX) (B : List Nat) (Q : List V → Hp → Prop) : List D → Env → (Addr → Prop) → Fps → Hp → Prop := fun d _ I' F' H' => ∀ v, Reps R (J I' F' B) H' v d → Q v H'
def tDA (R : RX) (Wx : WX) (f : M (List D)) (B W : List Nat) : TA := fun σ H Q => ∃ Γ I F, SA R I F Γ σ H ∧ Go R Wx W I F σ H (f Γ) (kA R B Q)
def kT (Q : Bool → Hp → Prop) : Bool → Env → (Addr → Prop) → Fps → Hp → Prop := fun b _ _ _ H' => Q b H'
def tDT (R : RX) (Wx : WX) (f : M Bool) (W : List Nat) : TT := fun σ H Q => ∃ Γ I F, SA R I F Γ σ H ∧ Go R Wx W I F σ H (f Γ) (kT Q)
/-- the end of a value: u stands for z behind new objects -/
theorem Go.fin {z : D} {Q : VK} (h : Go R Wx W I F σ H (.ok z Γ) (kE R B Q)) (sa : SA R I F Γ σ H) : ∀ u I' H', Same H H' → (∀ a, J I F B a → I' a) → (∀ a, I' a → J I F B a ∨ H a = none) → Rep R I' H' u z → Q u H' := by
  intro u I' H' sm hi hf r
  have q := h.grown (I' := fun a => I a ∨ (I' a ∧ H a = none ∧ H' a ≠ none)) sa sm (fun _ x => .inl x) (fun a x => by
    rcases x with x | x
    · exact .inl x
    · exact .inr x.2.1) (fun a x => by
    rcases x with x | x
    · obtain ⟨o, e⟩ := Option.ne_none_iff_exists'.mp (sa.itr a x)
      rw [sm _ _ e]
      exact Option.some_ne_none o
    · exact x.2.2)
  refine q u (r.trk.reg fun a x => ?_)
  rcases hf a x.1 with (y | y) | y
  · exact .inl (.inl y)
  · exact .inr y
  · exact .inl (.inr ⟨x.1, y, x.2⟩)
theorem Go.fin0 {z : D} {Q : VK} {u : V} (h : Go R Wx W I F σ H (.ok z Γ) (kE R B Q)) (sa : SA R I F Γ σ H) (r : Rep R (J I F B) H u z) : Q u H := h.here sa u r
end
theorem PE.imp {X : Cx} {e : Expr} {t t' : TE} (h : PE X e t) (f : ∀ σ H Q, t' σ H Q → t σ H Q) : PE X e t' := ⟨fun pins s σ H Q I x => h.run pins s σ H Q I (f σ H Q x)⟩
theorem PT.imp {X : Cx} {e : Expr} {t t' : TT} (h : PT X e t) (f : ∀ σ H Q, t' σ H Q → t σ H Q) : PT X e t' := ⟨fun pins s σ H Q I x => h.run pins s σ H Q I (f σ H Q x)⟩
theorem PA.imp {X : Cx} {e : List Expr} {t t' : TA} (h : PA X e t) (f : ∀ σ H Q, t' σ H Q → t σ H Q) : PA X e t' := ⟨fun p pins s σ H Q I x => h.run p pins s σ H Q I (f σ H Q x)⟩
theorem PS.imp {X : Cx} {e : Stmt} {t t' : TS} (h : PS X e t) (f : ∀ D σ H, t' D σ H → t D σ H) : PS X e t' := ⟨fun pins s σ H D I x => h.run pins s σ H D I (f D σ H x)⟩
theorem PSs.imp {X : Cx} {e : List Stmt} {t t' : TS} (h : PSs X e t) (f : ∀ D σ H, t' D σ H → t D σ H) : PSs X e t' := ⟨fun pins s σ H D I x => h.run pins s σ H D I (f D σ H x)⟩
end Dl
/-! DL2: expressions. -/
namespace Dl
open PySem PySem.Spec PyProof.Rows L2
section
variable {X : Cx} {R : RX} {Wx : WX} {W Wa Wb Wc B Ba Bb Bc : List Nat} {a b c e : Expr} {es : List Expr} {pos : Pos}
/-! ### constants and names -/
def mC (d : D) : M D := fun Γ => .ok d Γ
theorem de_c {v : V} {d : D} (h : PE X e (tC v)) (r : ∀ I H, Rep R I H v d) : PE X e (tD R Wx (mC d) [] []) := PE.imp h fun σ H Q ⟨Γ, I, F, sa, g⟩ => g.fin0 sa (r _ _)
theorem de_int {i : Int} {j : Nat} : PE X (.Constant (.int i) j pos) (tD R Wx (mC (.int i)) [] []) := de_c pe_int fun _ _ => .int i
theorem de_str {x : Str} {j : Nat} : PE X (.Constant (.str x) j pos) (tD R Wx (mC (.str x)) [] []) := de_c pe_str fun _ _ => .str x
theorem de_bl {x : Bool} {j : Nat} : PE X (.Constant (.bool x) j pos) (tD R Wx (mC (.bl x)) [] []) := de_c pe_bl fun _ _ => .bl x
theorem de_non {j : Nat} : PE X (.Constant .none j pos) (tD R Wx (mC .non) [] []) := de_c pe_non fun _ _ => .non
/-- a slot that is no own container -/
def getV (Γ : Env) (i : Nat) : Option D := match Γ[i]? with
  | some (some (.own _)) => none
  | some (some d) => some d
  | _ => none
def mVal (i : Nat) : M D := fun Γ => optO (getV Γ i) Γ
theorem SA.val {I : Addr → Prop} {F : Fps} {Γ : Env} {σ : L2.St} {H : Hp} (sa : SA R I F Γ σ H) {i : Nat} {d : D} (h : getV Γ i = some d) : ∃ v, σ[i]? = some (some v) ∧ Rep R I H v d := by
  have k := sa.ok i
  unfold getV at h
  unfold SlotOk at k
  split at h
  · cases h
  · rename_i d' e1 e2
    cases h
    rw [e2] at k
    split at k
    · rename_i c e3
      cases e3
      exact (e1 _ rfl).elim
    · rename_i d3 e3 e4
      cases e4
      exact k.1
    · rename_i n1 n2
      exact (n2 _ rfl).elim
  · cases h
theorem de_val {i : Nat} (h : PE X e (tVar i)) : PE X e (tD R Wx (mVal i) [] []) := PE.imp h fun σ H Q ⟨Γ, I, F, sa, g⟩ => by
  unfold mVal at g
  cases q : getV Γ i with
  | none => rw [q] at g; exact g.elim
  | some d =>
    rw [q] at g
    obtain ⟨v, e, r⟩ := sa.val q
    exact ⟨v, e, g.fin0 sa (r.reg fun _ => J.of)⟩
/-- a slot, read as it is now -/
def getO (Γ : Env) (i : Nat) : Option D := match Γ[i]? with
  | some (some (.own c)) => some c
  | some (some d) => some d
  | _ => none
def mOwn (i : Nat) : M D := fun Γ => optO (getO Γ i) Γ
theorem ORep.rep {I : Addr → Prop} {H : Hp} {v : V} {c : D} {Fo J' : Addr → Prop} (h : ORep R I H v c Fo) (hi : ∀ a, I a → J' a) (hf : ∀ a, Fo a → J' a) : Rep R J' H v c := by
  unfold ORep at h
  split at h
  · obtain ⟨p, xs, h1, h2, h3, h4⟩ := h
    rw [h1]
    exact .lst (hf _ ((h4 _).mpr rfl)) h2 (h3.reg hi)
  · obtain ⟨p, xs, h1, h2, h3, h4⟩ := h
    rw [h1]
    exact .dct (hf _ ((h4 _).mpr rfl)) (.inl h2) (h3.reg hi)
  · exact h.elim
theorem SA.own {I : Addr → Prop} {F : Fps} {Γ : Env} {σ : L2.St} {H : Hp} (sa : SA R I F Γ σ H) {i : Nat} {d : D} (h : getO Γ i = some d) : ∃ v, σ[i]? = some (some v) ∧ Rep R (J I F [i]) H v d := by
  have k := sa.ok i
  unfold getO at h
  unfold SlotOk at k
  split at h
  · rename_i c e2
    cases h
    rw [e2] at k
    obtain ⟨v, e, k⟩ := k
    exact ⟨v, e, k.rep (fun _ => J.of) fun a x => .inr ⟨i, by simp, x⟩⟩
  · rename_i d' e1 e2
    cases h
    rw [e2] at k
    split at k
    · rename_i c e3
      cases e3
      exact (e1 _ rfl).elim
    · rename_i d3 e3 e4
      cases e4
      obtain ⟨⟨v, e, k⟩, _⟩ := k
      exact ⟨v, e, k.reg fun _ => J.of⟩
    · rename_i n1 n2
      exact (n2 _ rfl).elim
  · cases h
theorem de_own {i : Nat} (h : PE X e (tVar i)) : PE X e (tD R Wx (mOwn i) [i] []) := PE.imp h fun σ H Q ⟨Γ, I, F, sa, g⟩ => by
  unfold mOwn at g
  cases q : getO Γ i with
  | none => rw [q] at g; exact g.elim
  | some d =>
    rw [q] at g
    obtain ⟨v, e, r⟩ := sa.own q
    exact ⟨v, e, g.fin0 sa r⟩
/-! ### operators -/
/-- what an operator's reading asks, from data -/
def Ops (R : RX) (r : R2) (f : D → D → Option D) : Prop := ∀ (I : Addr → Prop) (H : Hp) (x y : V) (dx dy z : D) (Q : VK), Rep R I H x dx → Rep R I H y dy → f dx dy = some z →
  (∀ u I' H', Same H H' → (∀ a, I a → I' a) → (∀ a, I' a → I a ∨ H a = none) → Rep R I' H' u z → Q u H') → r x y H Q
/-- .. where nothing new is made -/
theorem here2 {I : Addr → Prop} {H : Hp} {z : D} {u : V} {Q : VK} (k : ∀ u I' H', Same H H' → (∀ a, I a → I' a) → (∀ a, I' a → I a ∨ H a = none) → Rep R I' H' u z → Q u H') (r : Rep R I H u z) : Q u H :=
  k u I H (.refl H) (fun _ h => h) (fun _ h => .inl h) r
theorem same_upd {H : Hp} {p : Addr} {o : HO} (h : H p = none) : Same H (upd H p o) := fun b x e => by
  rw [upd_ne (ne_of_none e h)]
  exact e
/-- a new tuple, a new list -/
theorem new_tup {I : Addr → Prop} {H : Hp} {xs : List V} {ds : List D} {Q : VK} (k : ∀ u I' H', Same H H' → (∀ a, I a → I' a) → (∀ a, I' a → I a ∨ H a = none) → Rep R I' H' u (.tup ds) → Q u H') (r : Reps R I H xs ds) :
    ∀ p, H p = none → Q (.ref p) (upd H p (.tup xs)) := fun p hp =>
  k _ I _ (same_upd hp) (fun _ h => h) (fun _ h => .inl h) (.tup (.of upd_same) (r.ext (.same (same_upd hp)) fun _ h => h))
theorem new_lst {I : Addr → Prop} {H : Hp} {xs : List V} {ds : List D} {Q : VK} (k : ∀ u I' H', Same H H' → (∀ a, I a → I' a) → (∀ a, I' a → I a ∨ H a = none) → Rep R I' H' u (.lst ds) → Q u H') (r : Reps R I H xs ds) :
    ∀ p, H p = none → Q (.ref p) (upd H p (.lst xs)) := fun p hp =>
  k _ (fun a => I a ∨ a = p) _ (same_upd hp) (fun _ h => .inl h) (fun a h => by
    rcases h with h | h
    · exact .inl h
    · rw [h]; exact .inr hp) (.lst (.inr rfl) upd_same (r.ext (.same (same_upd hp)) fun _ h => .inl h))
theorem Reps.length {I : Addr → Prop} {H : Hp} : ∀ {xs : List V} {ds : List D}, Reps R I H xs ds → xs.length = ds.length
  | _, _, .nil => rfl
  | _, _, .cons _ r => by rw [List.length_cons, List.length_cons, Reps.length r]
theorem Reps.append {I : Addr → Prop} {H : Hp} : ∀ {xs ys : List V} {ds es : List D}, Reps R I H xs ds → Reps R I H ys es → Reps R I H (xs ++ ys) (ds ++ es)
  | _, _, _, _, .nil, q => q
  | _, _, _, _, .cons h r, q => .cons h (Reps.append r q)
theorem Reps.get {I : Addr → Prop} {H : Hp} : ∀ {xs : List V} {ds : List D} {i : Nat} {d : D}, Reps R I H xs ds → ds[i]? = some d → ∃ v, xs[i]? = some v ∧ Rep R I H v d
  | _, _, _, _, .nil, e => by simp at e
  | _, _, 0, _, .cons h _, e => by simp at e; subst e; exact ⟨_, rfl, h⟩
  | _, _, i + 1, d, .cons _ r, e => by
    obtain ⟨v, h1, h2⟩ := Reps.get (i := i) (d := d) r (by simpa using e)
    exact ⟨v, by simpa using h1, h2⟩
theorem Reps.get' {I : Addr → Prop} {H : Hp} : ∀ {xs : List V} {ds : List D} {i : Nat} {v : V}, Reps R I H xs ds → xs[i]? = some v → ∃ d, ds[i]? = some d ∧ Rep R I H v d
  | _, _, _, _, .nil, e => by simp at e
  | _, _, 0, _, .cons h _, e => by simp at e; subst e; exact ⟨_, rfl, h⟩
  | _, _, i + 1, d, .cons _ r, e => by
    obtain ⟨v, h1, h2⟩ := Reps.get' (i := i) (v := d) r (by simpa using e)
    exact ⟨v, by simpa using h1, h2⟩
theorem Reps.take {I : Addr → Prop} {H : Hp} : ∀ {xs : List V} {ds : List D} (n : Nat), Reps R I H xs ds → Reps R I H (xs.take n) (ds.take n)
  | _, _, 0, _ => .nil
  | _, _, _ + 1, .nil => .nil
  | _, _, n + 1, .cons h r => .cons h (Reps.take n r)
theorem Reps.drop {I : Addr → Prop} {H : Hp} : ∀ {xs : List V} {ds : List D} (n : Nat), Reps R I H xs ds → Reps R I H (xs.drop n) (ds.drop n)
  | _, _, 0, r => r
  | _, _, _ + 1, .nil => .nil
  | _, _, n + 1, .cons _ r => Reps.drop n r
def mBin (f : D → D → Option D) (fa fb : M D) : M D := fun Γ => (fa Γ).bind fun x Γ1 => (fb Γ1).bind fun y Γ2 => optO (f x y) Γ2
theorem bin_core {r : R2} {f : D → D → Option D} {fa fb : M D} (ho : Ops R r f) (hd : ∀ i ∈ Ba, i ∉ Wb) {σ : L2.St} {H : Hp} {Q : VK} (h : tD R Wx (mBin f fa fb) (Ba ++ Bb) (Wa ++ Wb) σ H Q) :
    tOp r (tD R Wx fa Ba Wa) (tD R Wx fb Bb Wb) σ H Q := by
  obtain ⟨Γ, I, F, sa, g⟩ := h
  refine ⟨Γ, I, F, sa, (g.bind (W1 := Wa) (W2 := Wb) (fun i h => List.mem_append_left _ h) (fun i h => List.mem_append_right _ h)).imp fun x Γ1 I1 F1 H1 sa1 s1 g1 v rv => ?_⟩
  refine ⟨Γ1, I1, F1, sa1, (g1.bind (W1 := Wb) (W2 := []) (fun i h => h) (fun i h => nomatch h)).imp fun y Γ2 I2 F2 H2 sa2 s2 g2 u ru => ?_⟩
  cases q : f x y with
  | none => rw [q] at g2; exact g2.elim
  | some z =>
    rw [q] at g2
    exact ho _ _ _ _ _ _ _ _ ((rv.stp sa1 s2 hd).reg (J.mono fun i h => List.mem_append_left _ h)) (ru.reg (J.mono fun i h => List.mem_append_right _ h)) q (g2.fin sa2)
theorem de_bin {op : Operator} {r : R2} {f : D → D → Option D} {fa fb : M D} (hr : OpR X (binaryOp op) r) (ho : Ops R r f) (ha : PE X a (tD R Wx fa Ba Wa)) (hb : PE X b (tD R Wx fb Bb Wb)) (hd : ∀ i ∈ Ba, i ∉ Wb := by decide) :
    PE X (.BinOp a op b pos) (tD R Wx (mBin f fa fb) (Ba ++ Bb) (Wa ++ Wb)) := PE.imp (pe_op hr ha hb) fun σ H Q h => bin_core ho hd h
theorem de_cmp {op : CmpOp} {r : R2} {f : D → D → Option D} {fa fb : M D} (hr : OpR X (compareOp op) r) (ho : Ops R r f) (ha : PE X a (tD R Wx fa Ba Wa)) (hb : PE X b (tD R Wx fb Bb Wb)) (hm : behindInMarks op b = false := by first | exact nomark _ | rfl)
    (hd : ∀ i ∈ Ba, i ∉ Wb := by decide) : PE X (.Compare a [op] [b] pos) (tD R Wx (mBin f fa fb) (Ba ++ Bb) (Wa ++ Wb)) := PE.imp (pe_cmpR hr ha hb hm) fun σ H Q h => bin_core ho hd h
/-- a test from a value that is a bool -/
def asB : D → Option Bool
  | .bl b => some b
  | _ => none
def mTB (f : M D) : M Bool := fun Γ => (f Γ).bind fun d Γ1 => optO (asB d) Γ1
theorem test_core {f : M D} {t : TE} (h : ∀ σ H Q, tD R Wx f B W σ H Q → t σ H Q) {σ : L2.St} {H : Hp} {Q : Bool → Hp → Prop} (q : tDT R Wx (mTB f) W σ H Q) : t σ H fun x H' => ∃ k, x = .bl k ∧ Q k H' := by
  obtain ⟨Γ, I, F, sa, g⟩ := q
  refine h σ H _ ⟨Γ, I, F, sa, (g.bind (W1 := W) (W2 := []) (fun i h => h) (fun i h => nomatch h)).imp fun x Γ1 I1 F1 H1 sa1 s1 g1 v rv => ?_⟩
  cases x <;> first | exact g1.elim | skip
  cases rv
  exact ⟨_, rfl, g1.here sa1⟩
theorem dt_cmp {op : CmpOp} {r : R2} {f : D → D → Option D} {fa fb : M D} (hr : OpR X (compareOp op) r) (ho : Ops R r f) (ha : PE X a (tD R Wx fa Ba Wa)) (hb : PE X b (tD R Wx fb Bb Wb)) (hm : behindInMarks op b = false := by first | exact nomark _ | rfl)
    (hd : ∀ i ∈ Ba, i ∉ Wb := by decide) : PT X (.Compare a [op] [b] pos) (tDT R Wx (mTB (mBin f fa fb)) (Wa ++ Wb)) := PT.imp (pt_cmpR hr ha hb hm) fun σ H Q h => test_core (fun σ H Q h => bin_core ho hd h) h
/-! + -/
def addD : D → D → Option D
  | .int i, .int j => some (.int (i + j))
  | .int i, .bl k => some (.int (i + b2i k))
  | .str x, .str y => if x.length + y.length ≤ sizeLine then some (.str (x ++ y)) else none
  | .tup xs, .tup ys => if xs.length + ys.length ≤ sizeLine then some (.tup (xs ++ ys)) else none
  | .lst xs, .lst ys => if xs.length + ys.length ≤ sizeLine then some (.lst (xs ++ ys)) else none
  | _, _ => none
def rAddD (K : PySem.W.Frag) : R2 := fun x y H Q => (rI0 (fun i j => .int (i + j)) x y H Q) ∨ (∃ i k, x = .int i ∧ y = .bl k ∧ Q (.int (i + b2i k)) H) ∨
  (∃ i j, x = .str i ∧ y = .str j ∧ i.length + j.length ≤ sizeLine ∧ Q (.str (i ++ j)) H) ∨ rCatA K x y H Q ∨ rCat x y H Q
theorem or_add : OpR X (binaryOp .Add) (rAddD X.K) := op_add.or (op_add_ib.or (op_add_str.or (op_catA.or op_cat)))
theorem add_ops : Ops R (rAddD R.K) addD := by
  intro I H x y dx dy z Q rx ry e k
  unfold addD at e
  split at e
  · cases e; cases rx; cases ry
    exact .inl ⟨_, _, rfl, rfl, here2 k (.int _)⟩
  · cases e; cases rx; cases ry
    exact .inr (.inl ⟨_, _, rfl, rfl, here2 k (.int _)⟩)
  · split at e
    · rename_i hz
      cases e; cases rx; cases ry
      exact .inr (.inr (.inl ⟨_, _, rfl, rfl, hz, here2 k (.str _)⟩))
    · cases e
  · split at e
    · rename_i hz
      cases e
      cases rx with
      | tup h1 r1 =>
      cases ry with
      | tup h2 r2 =>
      have l1 := r1.length
      have l2 := r2.length
      refine .inr (.inr (.inr (.inl ⟨_, _, _, _, rfl, rfl, h1, h2, by omega, fun e0 => ?_, fun _ e0 => ?_, fun _ _ => ?_⟩)))
      · subst e0
        cases r1
        exact here2 k (.tup h2 r2)
      · subst e0
        cases r2
        rw [List.append_nil] at k
        exact here2 k (.tup h1 r1)
      · exact new_tup k (r1.append r2)
    · cases e
  · split at e
    · rename_i hz
      cases e
      cases rx with
      | lst h1 h1' r1 =>
      cases ry with
      | lst h2 h2' r2 =>
      have l1 := r1.length
      have l2 := r2.length
      exact .inr (.inr (.inr (.inr ⟨_, _, _, _, rfl, rfl, h1', h2', by omega, new_lst k (r1.append r2)⟩)))
    · cases e
  · cases e
/-! - * // % ** -/
def intD (p : Int → Int → Bool) (g : Int → Int → Int) : D → D → Option D
  | .int i, .int j => if p i j then some (.int (g i j)) else none
  | _, _ => none
theorem int_ops {C : Int → Int → Prop} {p : Int → Int → Bool} {g : Int → Int → Int} (hp : ∀ i j, p i j = true → C i j) : Ops R (rI C fun i j => .int (g i j)) (intD p g) := by
  intro I H x y dx dy z Q rx ry e k
  unfold intD at e
  split at e
  · split at e
    · rename_i hz
      cases e; cases rx; cases ry
      exact ⟨_, _, rfl, rfl, hp _ _ hz, here2 k (.int _)⟩
    · cases e
  · cases e
def subD : D → D → Option D := intD (fun _ _ => true) (· - ·)
theorem or_sub : OpR X (binaryOp .Sub) (rI (fun _ _ => True) fun i j => .int (i - j)) := fun pins s σ H x y v u Q I rx ry ⟨i, j, e1, e2, _, q⟩ => op_sub pins s σ H x y v u Q I rx ry ⟨i, j, e1, e2, q⟩
theorem sub_ops : Ops R (rI (fun _ _ => True) fun i j => .int (i - j)) subD := int_ops fun _ _ _ => trivial
def mulP (i j : Int) : Bool := decide ((Builtin.Int.intBits i : Int) + (Builtin.Int.intBits j : Int) ≤ 134217728)
/-- a product; a list so many times -/
def mulD : D → D → Option D
  | .int i, .int j => if mulP i j then some (.int (i * j)) else none
  | .lst xs, .int k => if -(2 ^ 63) ≤ k ∧ k < 2 ^ 63 ∧ xs.length * k.toNat ≤ sizeLine then some (.lst (List.replicate k.toNat xs).flatten) else none
  | .tup xs, .int k => if xs ≠ [] ∧ 2 ≤ k ∧ k ≤ 1000 ∧ xs.length ≤ 1000 then some (.tup (List.replicate k.toNat xs).flatten) else none
  | _, _ => none
def rMulD (K : PySem.W.Frag) : R2 := fun x y H Q => rI CMulX (fun i j => .int (i * j)) x y H Q ∨ rRep x y H Q ∨ rRepT K x y H Q
theorem or_mul : OpR X (binaryOp .Mult) (rMulD X.K) := op_mulX.or (op_rep.or op_repT)
theorem Reps.rep {I : Addr → Prop} {H : Hp} {xs : List V} {ds : List D} (r : Reps R I H xs ds) : ∀ n : Nat, Reps R I H (List.replicate n xs).flatten (List.replicate n ds).flatten
  | 0 => .nil
  | n + 1 => by
    rw [List.replicate_succ, List.replicate_succ, List.flatten_cons, List.flatten_cons]
    exact r.append (Reps.rep r n)
theorem mul_ops : Ops R (rMulD R.K) mulD := by
  intro I H x y dx dy z Q rx ry e k
  unfold mulD at e
  split at e
  · split at e
    · rename_i hz
      cases e; cases rx; cases ry
      exact .inl ⟨_, _, rfl, rfl, (by unfold CMulX; unfold mulP at hz; exact of_decide_eq_true hz), here2 k (.int _)⟩
    · cases e
  · split at e
    · rename_i hz
      cases e; cases ry
      cases rx with
      | lst h1 h1' r1 =>
      exact .inr (.inl ⟨_, _, _, rfl, rfl, h1', hz.1, hz.2.1, by rw [r1.length]; exact hz.2.2, new_lst k (r1.rep _)⟩)
    · cases e
  · split at e
    · rename_i hz
      cases e; cases ry
      cases rx with
      | tup h1 r1 =>
      have l := r1.length
      exact .inr (.inr ⟨_, _, _, rfl, rfl, h1, fun z => by subst z; cases r1; exact hz.1 rfl, hz.2.1, hz.2.2.1, by omega, new_tup k (r1.rep _)⟩)
    · cases e
  · cases e
def fdvP (i j : Int) : Bool := decide (0 < j) && decide (j.natAbs.log2 < 9000)
def fdvD : D → D → Option D := intD fdvP (· / ·)
theorem fdv_ops : Ops R (rI CDivW fun i j => .int (i / j)) fdvD := int_ops fun i j h => by
  unfold fdvP at h
  rw [Bool.and_eq_true, decide_eq_true_eq, decide_eq_true_eq] at h
  exact h
def modD : D → D → Option D := intD (fun _ j => decide (0 < j)) (· % ·)
theorem mod_ops : Ops R (rI (fun _ j => 0 < j) fun i j => .int (i % j)) modD := int_ops fun i j h => of_decide_eq_true h
def powP (i j : Int) : Bool := decide (0 ≤ j) && (decide (j ≤ 1000000) && decide (i.natAbs < 2 ^ 64))
def powD : D → D → Option D := intD powP (fun i j => i ^ j.toNat)
theorem pow_ops : Ops R (rI CPow fun i j => .int (i ^ j.toNat)) powD := int_ops fun i j h => by
  unfold powP at h
  rw [Bool.and_eq_true, Bool.and_eq_true, decide_eq_true_eq, decide_eq_true_eq, decide_eq_true_eq] at h
  exact h
/-! order -/
def ordD (p : Int → Int → Bool) (q : Str → Str → Bool) : D → D → Option D
  | .int i, .int j => some (.bl (p i j))
  | .str x, .str y => some (.bl (q x y))
  | _, _ => none
def strLt (x y : Str) : Bool := decide (x.cps.toList < y.cps.toList)
def ltD : D → D → Option D := ordD (fun i j => decide (i < j)) strLt
def leD : D → D → Option D := ordD (fun i j => decide (i ≤ j)) fun x y => !strLt y x
def gtD : D → D → Option D := ordD (fun i j => decide (j < i)) fun x y => strLt y x
def geD : D → D → Option D := ordD (fun i j => decide (j ≤ i)) fun x y => !strLt x y
def rOrd (p : Int → Int → Bool) (q : Str → Str → Bool) : R2 := fun x y H Q => rI0 (fun i j => .bl (p i j)) x y H Q ∨ ∃ i j, x = .str i ∧ y = .str j ∧ Q (.bl (q i j)) H
theorem ord_ops {p : Int → Int → Bool} {q : Str → Str → Bool} : Ops R (rOrd p q) (ordD p q) := by
  intro I H x y dx dy z Q rx ry e k
  unfold ordD at e
  split at e
  · cases e; cases rx; cases ry
    exact .inl ⟨_, _, rfl, rfl, here2 k (.bl _)⟩
  · cases e; cases rx; cases ry
    exact .inr ⟨_, _, rfl, rfl, here2 k (.bl _)⟩
  · cases e
theorem or_lt : OpR X (compareOp .Lt) (rOrd (fun i j => decide (i < j)) strLt) := op_lt.or op_lt_str
theorem or_le : OpR X (compareOp .LtE) (rOrd (fun i j => decide (i ≤ j)) fun x y => !strLt y x) := op_le.or op_le_str
theorem or_gt : OpR X (compareOp .Gt) (rOrd (fun i j => decide (j < i)) fun x y => strLt y x) := op_gt.or op_gt_str
theorem or_ge : OpR X (compareOp .GtE) (rOrd (fun i j => decide (j ≤ i)) fun x y => !strLt x y) := op_ge.or op_ge_str
/-! ==, != -/
mutual
def toP : D → Option PyData
  | .non => some .none
  | .bl b => some (.bool b)
  | .int i => some (.int i)
  | .str x => some (.str x)
  | .tup l => (toPs l).map .tuple
  | .lst l => (toPs l).map .list
  | _ => none
def toPs : List D → Option (List PyData)
  | [] => some []
  | d :: ds => (toP d).bind fun p => (toPs ds).map (p :: ·)
end
mutual
theorem Rep.dp {I : Addr → Prop} {H : Hp} : ∀ {v : V} {d : D} {p : PyData}, Rep R I H v d → toP d = some p → Dp R.K H v p
  | _, _, _, .non, e => by cases e; exact .non
  | _, _, _, .bl b, e => by cases e; exact .bl b
  | _, _, _, .int i, e => by cases e; exact .int i
  | _, _, _, .str x, e => by cases e; exact .str x
  | _, _, p, .tup (ds := ds) h r, e => by
    have e : (toPs ds).map PyData.tuple = some p := by simpa only [toP] using e
    obtain ⟨l, e1, rfl⟩ := Option.map_eq_some_iff.mp e
    exact .tup h (Reps.dp r e1)
  | _, _, p, .lst (ds := ds) h1 h2 r, e => by
    have e : (toPs ds).map PyData.list = some p := by simpa only [toP] using e
    obtain ⟨l, e1, rfl⟩ := Option.map_eq_some_iff.mp e
    exact .lst (.of h2) (Reps.dp r e1)
  | _, _, _, .scr _, e => by simp only [toP] at e; cases e
  | _, _, _, .dct .., e => by simp only [toP] at e; cases e
  | _, _, _, .ins .., e => by simp only [toP] at e; cases e
theorem Reps.dp {I : Addr → Prop} {H : Hp} : ∀ {v : List V} {d : List D} {p : List PyData}, Reps R I H v d → toPs d = some p → DpAll R.K H v p
  | _, _, _, .nil, e => by
    simp only [toPs] at e
    cases e; exact .nil
  | _, _, q, .cons (d := d) (ds := ds) h r, e => by
    have e : ((toP d).bind fun p => (toPs ds).map (p :: ·)) = some q := by simpa only [toPs] using e
    obtain ⟨p, e1, e2⟩ := Option.bind_eq_some_iff.mp e
    obtain ⟨l, e3, rfl⟩ := Option.map_eq_some_iff.mp e2
    exact .cons (Rep.dp h e1) (Reps.dp r e3)
end
/-- scalars alone -/
def scalEq : D → D → Option Bool
  | .non, .non => some true
  | .non, .int _ | .int _, .non | .non, .bl _ | .bl _, .non | .non, .str _ | .str _, .non => some false
  | .int _, .str _ | .str _, .int _ | .bl _, .str _ | .str _, .bl _ => some false
  | .int i, .int j => some (i == j)
  | .bl i, .bl j => some (i == j)
  | .str i, .str j => some (i == j)
  | _, _ => none
def deepEq (x y : D) : Option Bool := (toP x).bind fun p => (toP y).bind fun q => if SeqAt.shaped p && SeqAt.shaped q then some (PyData.eqv p q) else none
def eqB (x y : D) : Option Bool := match scalEq x y with
  | some b => some b
  | none => deepEq x y
def eqD (x y : D) : Option D := (eqB x y).map .bl
def neD (x y : D) : Option D := (eqB x y).map fun b => .bl (!b)
theorem scal_ok {I : Addr → Prop} {H : Hp} {x y : V} {dx dy : D} {b : Bool} (rx : Rep R I H x dx) (ry : Rep R I H y dy) (e : scalEq dx dy = some b) : scal x y = true ∧ decide (x = y) = b := by
  unfold scalEq at e
  split at e <;> first | (cases e; done) | (cases e; cases rx; cases ry; simp [scal]; done) | skip
  · cases e; cases rx; cases ry; exact ⟨rfl, dec_int⟩
  · cases e; cases rx; cases ry; exact ⟨rfl, dec_bl⟩
  · cases e; cases rx; cases ry; exact ⟨rfl, dec_str⟩
theorem deep_ok {I : Addr → Prop} {H : Hp} {x y : V} {dx dy : D} {b : Bool} (rx : Rep R I H x dx) (ry : Rep R I H y dy) (e : deepEq dx dy = some b) :
    ∃ p q, Dp R.K H x p ∧ Dp R.K H y q ∧ SeqAt.shaped p = true ∧ SeqAt.shaped q = true ∧ PyData.eqv p q = b := by
  unfold deepEq at e
  obtain ⟨p, e1, e⟩ := Option.bind_eq_some_iff.mp e
  obtain ⟨q, e2, e⟩ := Option.bind_eq_some_iff.mp e
  split at e
  · rename_i hs
    rw [Bool.and_eq_true] at hs
    exact ⟨p, q, rx.dp e1, ry.dp e2, hs.1, hs.2, Option.some.inj e⟩
  · cases e
def rEqQ (K : PySem.W.Frag) : R2 := fun x y H Q => rEq x y H Q ∨ rEqD K x y H Q
def rNeQ (K : PySem.W.Frag) : R2 := fun x y H Q => rNe x y H Q ∨ rNeD K x y H Q
theorem or_eq (hu : X.A.units + 64 < cLine) : OpR X (compareOp .Eq) (rEqQ X.K) := op_eq.or (op_eqD hu)
theorem or_ne (hu : X.A.units + 64 < cLine) : OpR X (compareOp .NotEq) (rNeQ X.K) := op_ne.or (op_neD hu)
theorem eq_ops : Ops R (rEqQ R.K) eqD := by
  intro I H x y dx dy z Q rx ry e k
  unfold eqD eqB at e
  split at e
  · rename_i b hb
    cases e
    obtain ⟨h1, h2⟩ := scal_ok rx ry hb
    exact .inl ⟨h1, by rw [h2]; exact here2 k (.bl _)⟩
  · obtain ⟨b, hb, rfl⟩ := Option.map_eq_some_iff.mp e
    obtain ⟨p, q, h1, h2, h3, h4, h5⟩ := deep_ok rx ry hb
    exact .inr ⟨p, q, h1, h2, h3, h4, by rw [h5]; exact here2 k (.bl _)⟩
theorem ne_ops : Ops R (rNeQ R.K) neD := by
  intro I H x y dx dy z Q rx ry e k
  unfold neD eqB at e
  split at e
  · rename_i b hb
    cases e
    obtain ⟨h1, h2⟩ := scal_ok rx ry hb
    exact .inl ⟨h1, by rw [h2]; exact here2 k (.bl _)⟩
  · obtain ⟨b, hb, rfl⟩ := Option.map_eq_some_iff.mp e
    obtain ⟨p, q, h1, h2, h3, h4, h5⟩ := deep_ok rx ry hb
    exact .inr ⟨p, q, h1, h2, h3, h4, by rw [h5]; exact here2 k (.bl _)⟩
end
end Dl
/-! DL3: in, is, truth, and, or, not, if; argument lists, displays, subscripts, slices. -/
namespace Dl
open PySem PySem.Spec PyProof.Rows L2
section
variable {X : Cx} {R : RX} {Wx : WX} {W Wa Wb Wc B Ba Bb Bc : List Nat} {a b c e : Expr} {es rest : List Expr} {pos : Pos}
/-! ### in, not in -/
def flatD : D → Bool
  | .non | .bl _ | .int _ | .str _ => true
  | _ => false
/-- == of flat data -/
def eqF : D → D → Bool
  | .non, .non => true
  | .bl a, .bl b => a == b
  | .bl a, .int b => (if a then 1 else 0) == b
  | .int a, .bl b => a == (if b then 1 else 0)
  | .int a, .int b => a == b
  | .str a, .str b => a == b
  | _, _ => false
theorem flat_ok {I : Addr → Prop} {H : Hp} {v : V} {d : D} (r : Rep R I H v d) (f : flatD d = true) : flatV v = true := by
  cases r <;> first | rfl | cases f
theorem eqF_ok {I : Addr → Prop} {H : Hp} {v u : V} {d c : D} (r : Rep R I H v d) (q : Rep R I H u c) (f : flatD d = true) (g : flatD c = true) : eqV v u = eqF d c := by
  cases r <;> first | cases f; done | (cases q <;> first | cases g; done | rfl)
theorem flats_ok {I : Addr → Prop} {H : Hp} : ∀ {vs : List V} {ds : List D}, Reps R I H vs ds → ds.all flatD = true → vs.all flatV = true
  | _, _, .nil, _ => rfl
  | _, _, .cons r t, f => by
    rw [List.all_cons, Bool.and_eq_true] at f
    rw [List.all_cons, Bool.and_eq_true]
    exact ⟨flat_ok r f.1, flats_ok t f.2⟩
theorem inF_ok {I : Addr → Prop} {H : Hp} {u : V} {c : D} (q : Rep R I H u c) (g : flatD c = true) : ∀ {vs : List V} {ds : List D}, Reps R I H vs ds → ds.all flatD = true → inV u vs = ds.any fun d => eqF d c
  | _, _, .nil, _ => rfl
  | v :: vs, d :: ds, .cons r t, f => by
    rw [List.all_cons, Bool.and_eq_true] at f
    have ih := inF_ok q g t f.2
    unfold inV at ih ⊢
    rw [List.any_cons, List.any_cons, eqF_ok r q f.1 g, ih]
/-- items of a list or tuple -/
def itemsD : D → Option (List D)
  | .lst l => some l
  | .tup l => some l
  | _ => none
def deepIn (x : D) (l : List D) : Option Bool := (toP x).bind fun p => (toPs l).bind fun qs => if SeqAt.shaped p && SeqAt.shaped (.list qs) then some (qs.any fun z => PyData.eqv z p) else none
def oneSign (x : Str) : Option Nat := match x.cps.toList with
  | [c] => some c
  | _ => none
theorem oneSign_eq {x : Str} {c : Nat} (h : oneSign x = some c) : x = ⟨#[c]⟩ := by
  unfold oneSign at h
  split at h
  · rename_i d e
    cases h
    obtain ⟨⟨l⟩⟩ := x
    have e : l = [c] := e
    subst e; rfl
  · cases h
def inDct (x : D) (kvs : List (Key × D)) : Option Bool := match x with
  | .int i => some (kvs.any fun p => decide (p.1 = Sum.inl i))
  | .str x => some (kvs.any fun p => decide (p.1 = Sum.inr x))
  | _ => none
def inTxt (x : D) (z : Str) : Option Bool := match x with
  | .str s => (oneSign s).map fun c => decide (c ∈ z.cps.toList)
  | _ => none
def inB (x y : D) : Option Bool := match y with
  | .str z => inTxt x z
  | .lst l => if flatD x && l.all flatD then some (l.any fun d => eqF d x) else deepIn x l
  | .tup l => if flatD x && l.all flatD then some (l.any fun d => eqF d x) else none
  | .dct kvs => inDct x kvs
  | _ => none
def isInD (x y : D) : Option D := (inB x y).map .bl
def notInD (x y : D) : Option D := (inB x y).map fun b => .bl (!b)
/-! is -/
def isB (x y : D) : Option Bool := match x, y with
  | .non, .non => some true
  | _, .non => some false
  | .bl a, .bl b => some (decide (a = b))
  | _, .bl _ => some false
  | _, _ => none
def isD (x y : D) : Option D := (isB x y).map .bl
def isNotD (x y : D) : Option D := (isB x y).map fun b => .bl (!b)
/-- no bool, compared with a bool: is is False -/
def rIsO : R2 := fun x y H Q => ∃ b, y = .bl b ∧ (∀ a, x ≠ .bl a) ∧ Q (.bl false) H
def rNotO : R2 := fun x y H Q => ∃ b, y = .bl b ∧ (∀ a, x ≠ .bl a) ∧ Q (.bl true) H
theorem op_isO {X : Cx} : OpR X (compareOp .Is) rIsO := by
  intro pins s σ H x y v u Q I rx ry ⟨b, ey, hn, q⟩
  subst ey
  cases (show u = Value.bool b from ry)
  have e : wpAny (model X.prog X.w) X.A (compareOp .Is v (.bool b)) (fun r s' => ∃ z H', Inv X pins σ H' s' ∧ RelV z r ∧ Q z H') X.xe s := by
    cases x with
    | bl a => exact (hn a rfl).elim
    | _ =>
      cases v <;> first
        | exact wpAny_pure ⟨.bl false, H, I, rfl, q⟩
        | exact (show False from rx).elim
        | (cases rx; done)
        | (obtain ⟨t, z⟩ := rx; cases z; done)
  exact e
theorem op_isNotO {X : Cx} : OpR X (compareOp .IsNot) rNotO := by
  intro pins s σ H x y v u Q I rx ry ⟨b, ey, hn, q⟩
  subst ey
  cases (show u = Value.bool b from ry)
  have e : wpAny (model X.prog X.w) X.A (compareOp .IsNot v (.bool b)) (fun r s' => ∃ z H', Inv X pins σ H' s' ∧ RelV z r ∧ Q z H') X.xe s := by
    cases x with
    | bl a => exact (hn a rfl).elim
    | _ =>
      cases v <;> first
        | exact wpAny_pure ⟨.bl true, H, I, rfl, q⟩
        | exact (show False from rx).elim
        | (cases rx; done)
        | (obtain ⟨t, z⟩ := rx; cases z; done)
  exact e
def rIsQ : R2 := fun x y H Q => (y = .non ∧ Q (.bl (decide (x = .non))) H) ∨ rIsB x y H Q ∨ rIsO x y H Q
def rNotQ : R2 := fun x y H Q => (y = .non ∧ Q (.bl (!decide (x = .non))) H) ∨ rNotB x y H Q ∨ rNotO x y H Q
theorem or_is : OpR X (compareOp .Is) rIsQ := op_isN.or (op_isBl.or op_isO)
theorem or_isNot : OpR X (compareOp .IsNot) rNotQ := op_notN.or (op_notBl.or op_isNotO)
theorem is_ops : Ops R rIsQ isD := by
  intro I H x y dx dy z Q rx ry e k
  unfold isD isB at e
  split at e
  · cases e; cases rx; cases ry
    exact .inl ⟨rfl, here2 k (.bl _)⟩
  · rename_i n
    cases e; cases ry
    refine .inl ⟨rfl, ?_⟩
    rw [decide_eq_false (fun z => ?_)]
    · exact here2 k (.bl _)
    · subst z; cases rx; exact n rfl
  · cases e; cases rx; cases ry
    exact .inr (.inl ⟨_, _, rfl, rfl, here2 k (.bl _)⟩)
  · rename_i n
    cases e; cases ry
    exact .inr (.inr ⟨_, rfl, fun a z => by subst z; cases rx; exact n _ rfl, here2 k (.bl _)⟩)
  · cases e
theorem isNot_ops : Ops R rNotQ isNotD := by
  intro I H x y dx dy z Q rx ry e k
  unfold isNotD isB at e
  split at e
  · cases e; cases rx; cases ry
    exact .inl ⟨rfl, here2 k (.bl _)⟩
  · rename_i n
    cases e; cases ry
    refine .inl ⟨rfl, ?_⟩
    rw [decide_eq_false (fun z => ?_)]
    · exact here2 k (.bl _)
    · subst z; cases rx; exact n rfl
  · cases e; cases rx; cases ry
    exact .inr (.inl ⟨_, _, rfl, rfl, here2 k (.bl _)⟩)
  · rename_i n
    cases e; cases ry
    exact .inr (.inr ⟨_, rfl, fun a z => by subst z; cases rx; exact n _ rfl, here2 k (.bl _)⟩)
  · cases e
/-- in: a sign in a text, a flat thing in a row, data in a list -/
def rInQ (K : PySem.W.Frag) : R2 := fun x y H Q => (∃ (c : Nat) (z : Str), x = .str ⟨#[c]⟩ ∧ y = .str z ∧ Q (.bl (decide (c ∈ z.cps.toList))) H) ∨ rIn K false x y H Q ∨ rInD K x y H Q
def rNotInQ (K : PySem.W.Frag) : R2 := fun x y H Q => (∃ (c : Nat) (z : Str), x = .str ⟨#[c]⟩ ∧ y = .str z ∧ Q (.bl (!decide (c ∈ z.cps.toList))) H) ∨ rIn K true x y H Q ∨ rNotInD K x y H Q
theorem or_in (hu : X.A.units + 65 < cLine) : OpR X (compareOp .In) (rInQ X.K) := op_in_sign.or (op_in_seq.or (op_inD hu))
theorem or_notIn (hu : X.A.units + 65 < cLine) : OpR X (compareOp .NotIn) (rNotInQ X.K) := op_notIn_sign.or (op_notIn_seq.or (op_notInD hu))
/-- without dicts -/
def noDct : D → Bool
  | .dct _ => false
  | _ => true
def inS (x y : D) : Option D := if noDct y then isInD x y else none
def notInS (x y : D) : Option D := if noDct y then notInD x y else none
theorem deepIn_ok {I : Addr → Prop} {H : Hp} {x y : V} {dx : D} {l : List D} {b : Bool} (rx : Rep R I H x dx) (ry : Rep R I H y (.lst l)) (e : deepIn dx l = some b) :
    ∃ p qs, Dp R.K H x p ∧ Dp R.K H y (.list qs) ∧ SeqAt.shaped p = true ∧ SeqAt.shaped (.list qs) = true ∧ (qs.any fun z => PyData.eqv z p) = b := by
  unfold deepIn at e
  obtain ⟨p, e1, e⟩ := Option.bind_eq_some_iff.mp e
  obtain ⟨q, e2, e⟩ := Option.bind_eq_some_iff.mp e
  split at e
  · rename_i hs
    rw [Bool.and_eq_true] at hs
    exact ⟨p, q, rx.dp e1, ry.dp (by simp only [toP, e2]; rfl), hs.1, hs.2, Option.some.inj e⟩
  · cases e
theorem inB_ok {I : Addr → Prop} {H : Hp} {x y : V} {dx dy : D} {b : Bool} (rx : Rep R I H x dx) (ry : Rep R I H y dy) (n : noDct dy = true) (e : inB dx dy = some b) :
    (∃ (c : Nat) (z : Str), x = .str ⟨#[c]⟩ ∧ y = .str z ∧ decide (c ∈ z.cps.toList) = b) ∨
    (∃ p xs, y = .ref p ∧ (SqL R.K H p xs ∨ SqT R.K H p xs) ∧ flatV x = true ∧ xs.all flatV = true ∧ inV x xs = b) ∨
    ∃ p qs, Dp R.K H x p ∧ Dp R.K H y (.list qs) ∧ SeqAt.shaped p = true ∧ SeqAt.shaped (.list qs) = true ∧ (qs.any fun z => PyData.eqv z p) = b := by
  unfold inB at e
  split at e
  · unfold inTxt at e
    split at e
    · obtain ⟨c, e1, rfl⟩ := Option.map_eq_some_iff.mp e
      cases rx; cases ry
      exact .inl ⟨c, _, by rw [oneSign_eq e1], rfl, rfl⟩
    · cases e
  · split at e
    · rename_i hf
      rw [Bool.and_eq_true] at hf
      cases e
      cases ry with
      | lst h1 h2 r =>
      exact .inr (.inl ⟨_, _, rfl, .inl (.of h2), flat_ok rx hf.1, flats_ok r hf.2, inF_ok rx hf.1 r hf.2⟩)
    · exact .inr (.inr (deepIn_ok rx ry e))
  · split at e
    · rename_i hf
      rw [Bool.and_eq_true] at hf
      cases e
      cases ry with
      | tup h2 r =>
      exact .inr (.inl ⟨_, _, rfl, .inr h2, flat_ok rx hf.1, flats_ok r hf.2, inF_ok rx hf.1 r hf.2⟩)
    · cases e
  · cases n
  · cases e
theorem in_ops : Ops R (rInQ R.K) inS := by
  intro I H x y dx dy z Q rx ry e k
  unfold inS at e
  split at e
  · rename_i n
    obtain ⟨b, e1, rfl⟩ := Option.map_eq_some_iff.mp e
    rcases inB_ok rx ry n e1 with ⟨c, w, h1, h2, h3⟩ | ⟨p, xs, h1, h2, h3, h4, h5⟩ | ⟨p, qs, h1, h2, h3, h4, h5⟩
    · exact .inl ⟨c, w, h1, h2, by rw [h3]; exact here2 k (.bl _)⟩
    · exact .inr (.inl ⟨p, xs, h1, h2, h3, h4, by rw [if_neg Bool.false_ne_true, h5]; exact here2 k (.bl _)⟩)
    · exact .inr (.inr ⟨p, qs, h1, h2, h3, h4, by rw [h5]; exact here2 k (.bl _)⟩)
  · cases e
theorem notIn_ops : Ops R (rNotInQ R.K) notInS := by
  intro I H x y dx dy z Q rx ry e k
  unfold notInS at e
  split at e
  · rename_i n
    obtain ⟨b, e1, rfl⟩ := Option.map_eq_some_iff.mp e
    rcases inB_ok rx ry n e1 with ⟨c, w, h1, h2, h3⟩ | ⟨p, xs, h1, h2, h3, h4, h5⟩ | ⟨p, qs, h1, h2, h3, h4, h5⟩
    · exact .inl ⟨c, w, h1, h2, by rw [h3]; exact here2 k (.bl _)⟩
    · exact .inr (.inl ⟨p, xs, h1, h2, h3, h4, by rw [if_pos rfl, h5]; exact here2 k (.bl _)⟩)
    · exact .inr (.inr ⟨p, qs, h1, h2, h3, h4, by rw [h5]; exact here2 k (.bl _)⟩)
  · cases e
/-! ### truth -/
def truthD : D → Option Bool
  | .non => some false
  | .bl b => some b
  | .int i => some (i != 0)
  | .str y => if y.length ≤ sizeLine then some ((y.length : Int) != 0) else none
  | .tup l => some (!l.isEmpty)
  | .lst l => some (!l.isEmpty)
  | .scr l => some (!l.isEmpty)
  | _ => none
theorem Reps.isEmpty {I : Addr → Prop} {H : Hp} {xs : List V} {ds : List D} (r : Reps R I H xs ds) : xs.isEmpty = ds.isEmpty := by
  cases r <;> rfl
theorem RepK.isEmpty {I : Addr → Prop} {H : Hp} {xs : List (Key × V)} {ds : List (Key × D)} (r : RepK R I H xs ds) : xs.isEmpty = ds.isEmpty := by
  cases r <;> rfl
theorem tru_of {I : Addr → Prop} {H : Hp} {v : V} {d : D} {k : Bool} (r : Rep R I H v d) (e : truthD d = some k) : TruV R.K v H k := by
  cases r with
  | non => cases e; rfl
  | bl b => cases e; rfl
  | int i => cases e; rfl
  | str x =>
    have e : (if x.length ≤ sizeLine then some ((x.length : Int) != 0) else none) = some k := e
    split at e
    · rename_i h
      cases e; exact ⟨h, rfl⟩
    · cases e
  | tup h r => cases e; exact .inr (.inl ⟨_, h, by rw [r.isEmpty]⟩)
  | lst h1 h2 r => cases e; exact .inl ⟨_, .of h2, by rw [r.isEmpty]⟩
  | scr h => cases e; exact .inl ⟨_, h.sq, by rw [List.isEmpty_map]⟩
  | dct h1 h2 r => cases e
  | ins => cases e
def mTru (f : M D) : M Bool := fun Γ => (f Γ).bind fun d Γ1 => optO (truthD d) Γ1
theorem dt_truth {f : M D} (hK : R.K = X.K) (h : PE X e (tD R Wx f B W)) (he : ∀ whole, isTrue e X.env whole = (do let v ← whole; standAt e.pos; holding [v] (truthy v)) := by intro _; rfl) : PT X e (tDT R Wx (mTru f) W) :=
  PT.imp (pt_truth h he) fun σ H Q ⟨Γ, I, F, sa, g⟩ => by
    refine ⟨Γ, I, F, sa, (g.bind (W1 := W) (W2 := []) (fun i h => h) (fun i h => nomatch h)).imp fun x Γ1 I1 F1 H1 sa1 s1 g1 v rv => ?_⟩
    cases q : truthD x with
    | none => rw [q] at g1; exact g1.elim
    | some k =>
      rw [q] at g1
      exact ⟨k, hK ▸ tru_of rv q, g1.here sa1⟩
def mAnd (fa fb : M Bool) : M Bool := fun Γ => (fa Γ).bind fun x Γ1 => if x = true then fb Γ1 else .ok false Γ1
def mOr (fa fb : M Bool) : M Bool := fun Γ => (fa Γ).bind fun x Γ1 => if x = true then .ok true Γ1 else fb Γ1
def mNot (fa : M Bool) : M Bool := fun Γ => (fa Γ).bind fun x Γ1 => .ok (!x) Γ1
theorem dw_and1 {f : M Bool} (ha : PT X a (tDT R Wx f W)) : PW X (.BoolOp .And [a] pos) (tDT R Wx f W) := pw_and1 ha
theorem dw_or1 {f : M Bool} (ha : PT X a (tDT R Wx f W)) : PW X (.BoolOp .Or [a] pos) (tDT R Wx f W) := pw_or1 ha
theorem PW.imp {t t' : TT} (h : PW X e t) (f : ∀ σ H Q, t' σ H Q → t σ H Q) : PW X e t' := ⟨fun w pins s σ H Q I x => h.run w pins s σ H Q I (f σ H Q x)⟩
theorem dw_and {fa fb : M Bool} (ha : PT X a (tDT R Wx fa Wa)) (hb : PW X (.BoolOp .And (b :: rest) pos) (tDT R Wx fb Wb)) : PW X (.BoolOp .And (a :: b :: rest) pos) (tDT R Wx (mAnd fa fb) (Wa ++ Wb)) :=
  PW.imp (pw_and ha hb) fun σ H Q ⟨Γ, I, F, sa, g⟩ => by
    refine ⟨Γ, I, F, sa, (g.bind (W1 := Wa) (W2 := Wb) (fun i h => List.mem_append_left _ h) (fun i h => List.mem_append_right _ h)).imp fun x Γ1 I1 F1 H1 sa1 s1 g1 => ?_⟩
    cases x with
    | true =>
      rw [if_pos rfl] at g1
      show if true = true then tDT R Wx fb Wb σ H1 Q else Q false H1
      rw [if_pos rfl]
      exact ⟨Γ1, I1, F1, sa1, g1⟩
    | false =>
      rw [if_neg Bool.false_ne_true] at g1
      show if false = true then tDT R Wx fb Wb σ H1 Q else Q false H1
      rw [if_neg Bool.false_ne_true]
      exact g1.here sa1
theorem dw_or {fa fb : M Bool} (ha : PT X a (tDT R Wx fa Wa)) (hb : PW X (.BoolOp .Or (b :: rest) pos) (tDT R Wx fb Wb)) : PW X (.BoolOp .Or (a :: b :: rest) pos) (tDT R Wx (mOr fa fb) (Wa ++ Wb)) :=
  PW.imp (pw_or ha hb) fun σ H Q ⟨Γ, I, F, sa, g⟩ => by
    refine ⟨Γ, I, F, sa, (g.bind (W1 := Wa) (W2 := Wb) (fun i h => List.mem_append_left _ h) (fun i h => List.mem_append_right _ h)).imp fun x Γ1 I1 F1 H1 sa1 s1 g1 => ?_⟩
    cases x with
    | true =>
      rw [if_pos rfl] at g1
      show if true = true then Q true H1 else tDT R Wx fb Wb σ H1 Q
      rw [if_pos rfl]
      exact g1.here sa1
    | false =>
      rw [if_neg Bool.false_ne_true] at g1
      show if false = true then Q true H1 else tDT R Wx fb Wb σ H1 Q
      rw [if_neg Bool.false_ne_true]
      exact ⟨Γ1, I1, F1, sa1, g1⟩
theorem dt_bool {f : M Bool} {op : BoolOp} (h : PW X (.BoolOp op es pos) (tDT R Wx f W)) : PT X (.BoolOp op es pos) (tDT R Wx f W) := h.pt
theorem dt_not {fa : M Bool} (ha : PT X a (tDT R Wx fa W)) : PT X (.UnaryOp .Not a pos) (tDT R Wx (mNot fa) W) := PT.imp (pt_not ha) fun σ H Q ⟨Γ, I, F, sa, g⟩ => by
  refine ⟨Γ, I, F, sa, (g.bind (W1 := W) (W2 := []) (fun i h => h) (fun i h => nomatch h)).imp fun x Γ1 I1 F1 H1 sa1 s1 g1 => g1.here sa1⟩
/-! .. as values -/
def mAndV (fa fb : M D) : M D := fun Γ => (fa Γ).bind fun x Γ1 => (optO (truthD x) Γ1).bind fun k Γ2 => if k = true then fb Γ2 else .ok x Γ2
def mOrV (fa fb : M D) : M D := fun Γ => (fa Γ).bind fun x Γ1 => (optO (truthD x) Γ1).bind fun k Γ2 => if k = true then .ok x Γ2 else fb Γ2
theorem de_one {op : BoolOp} {f : M D} (h : PE X a (tD R Wx f B W)) : PE X (.BoolOp op [a] pos) (tD R Wx f B W) := pe_one h
theorem Go.sub {B' : List Nat} {I : Addr → Prop} {F : Fps} {σ : L2.St} {H : Hp} {o : Out D} {Q : VK} (h : Go R Wx W I F σ H o (kE R B Q)) (hb : ∀ i ∈ B', i ∈ B) : Go R Wx W I F σ H o (kE R B' Q) :=
  h.imp fun x Γ1 I1 F1 H1 sa1 s1 g1 v rv => g1 v (rv.reg (J.mono hb))
theorem de_and {fa fb : M D} (hK : R.K = X.K) (ha : PE X a (tD R Wx fa Ba Wa)) (hb : PE X (.BoolOp .And (b :: rest) pos) (tD R Wx fb Bb Wb)) : PE X (.BoolOp .And (a :: b :: rest) pos) (tD R Wx (mAndV fa fb) (Ba ++ Bb) (Wa ++ Wb)) :=
  PE.imp (pe_andT ha hb) fun σ H Q ⟨Γ, I, F, sa, g⟩ => by
    refine ⟨Γ, I, F, sa, (g.bind (W1 := Wa) (W2 := Wb) (fun i h => List.mem_append_left _ h) (fun i h => List.mem_append_right _ h)).imp fun x Γ1 I1 F1 H1 sa1 s1 g1 v rv => ?_⟩
    cases q : truthD x with
    | none => rw [q] at g1; exact g1.elim
    | some k =>
      rw [q] at g1
      refine ⟨k, hK ▸ tru_of rv q, ?_⟩
      cases k with
      | true => exact ⟨Γ1, I1, F1, sa1, Go.sub g1 fun i h => List.mem_append_right _ h⟩
      | false => exact g1.here sa1 v (rv.reg (J.mono fun i h => List.mem_append_left _ h))
theorem de_or {fa fb : M D} (hK : R.K = X.K) (ha : PE X a (tD R Wx fa Ba Wa)) (hb : PE X (.BoolOp .Or (b :: rest) pos) (tD R Wx fb Bb Wb)) : PE X (.BoolOp .Or (a :: b :: rest) pos) (tD R Wx (mOrV fa fb) (Ba ++ Bb) (Wa ++ Wb)) :=
  PE.imp (pe_orT ha hb) fun σ H Q ⟨Γ, I, F, sa, g⟩ => by
    refine ⟨Γ, I, F, sa, (g.bind (W1 := Wa) (W2 := Wb) (fun i h => List.mem_append_left _ h) (fun i h => List.mem_append_right _ h)).imp fun x Γ1 I1 F1 H1 sa1 s1 g1 v rv => ?_⟩
    cases q : truthD x with
    | none => rw [q] at g1; exact g1.elim
    | some k =>
      rw [q] at g1
      refine ⟨k, hK ▸ tru_of rv q, ?_⟩
      cases k with
      | false => exact ⟨Γ1, I1, F1, sa1, Go.sub g1 fun i h => List.mem_append_right _ h⟩
      | true => exact g1.here sa1 v (rv.reg (J.mono fun i h => List.mem_append_left _ h))
def mNotV (fa : M D) : M D := fun Γ => (fa Γ).bind fun x Γ1 => (optO (truthD x) Γ1).bind fun k Γ2 => .ok (.bl (!k)) Γ2
theorem de_not {fa : M D} (hK : R.K = X.K) (ha : PE X a (tD R Wx fa Ba W)) : PE X (.UnaryOp .Not a pos) (tD R Wx (mNotV fa) [] W) :=
  PE.imp (pe_notT ha) fun σ H Q ⟨Γ, I, F, sa, g⟩ => by
    refine ⟨Γ, I, F, sa, (g.bind (W1 := W) (W2 := []) (fun i h => h) (fun i h => nomatch h)).imp fun x Γ1 I1 F1 H1 sa1 s1 g1 v rv => ?_⟩
    cases q : truthD x with
    | none => rw [q] at g1; exact g1.elim
    | some k =>
      rw [q] at g1
      exact ⟨k, hK ▸ tru_of rv q, g1.here sa1 _ (.bl _)⟩
def mIf (ft : M Bool) (fa fb : M D) : M D := fun Γ => (ft Γ).bind fun k Γ1 => if k = true then fa Γ1 else fb Γ1
theorem de_if {ft : M Bool} {fa fb : M D} (hc : PT X c (tDT R Wx ft Wc)) (ha : PE X a (tD R Wx fa Ba Wa)) (hb : PE X b (tD R Wx fb Bb Wb)) : PE X (.IfExp c a b pos) (tD R Wx (mIf ft fa fb) (Ba ++ Bb) (Wc ++ (Wa ++ Wb))) :=
  PE.imp (pe_ifExp hc ha hb) fun σ H Q ⟨Γ, I, F, sa, g⟩ => by
    refine ⟨Γ, I, F, sa, (g.bind (W1 := Wc) (W2 := Wa ++ Wb) (fun i h => List.mem_append_left _ h) (fun i h => List.mem_append_right _ h)).imp fun x Γ1 I1 F1 H1 sa1 s1 g1 => ?_⟩
    cases x with
    | true => exact ⟨Γ1, I1, F1, sa1, Go.sub (g1.mono fun i h => List.mem_append_left _ h) fun i h => List.mem_append_left _ h⟩
    | false => exact ⟨Γ1, I1, F1, sa1, Go.sub (g1.mono fun i h => List.mem_append_right _ h) fun i h => List.mem_append_right _ h⟩
/-- a chain a < b < c -/
def mChain (f f' : D → D → Option D) (fa fb fc : M D) : M D := fun Γ => (fa Γ).bind fun x Γ1 => (fb Γ1).bind fun y Γ2 => (optO ((f x y).bind asB) Γ2).bind fun k Γ3 =>
  if k = true then (fc Γ3).bind fun z Γ4 => optO (f' y z) Γ4 else .ok (.bl false) Γ3
/-- an operator that gives a bool where it stands -/
def OpsB (R : RX) (r : R2) (f : D → D → Option D) : Prop := ∀ (I : Addr → Prop) (H : Hp) (x y : V) (dx dy : D) (k : Bool) (Q : VK), Rep R I H x dx → Rep R I H y dy → f dx dy = some (.bl k) → Q (.bl k) H → r x y H Q
theorem chain_core {r r' : R2} {f f' : D → D → Option D} {fa fb fc : M D} (ho : OpsB R r f) (ho' : Ops R r' f') (hd : ∀ i ∈ Ba, i ∉ Wb) (hd2 : ∀ i ∈ Bb, i ∉ Wc) {σ : L2.St} {H : Hp} {Q : VK}
    (h : tD R Wx (mChain f f' fa fb fc) (Ba ++ (Bb ++ Bc)) (Wa ++ (Wb ++ Wc)) σ H Q) : tChain r r' (tD R Wx fa Ba Wa) (tD R Wx fb Bb Wb) (tD R Wx fc Bc Wc) σ H Q := by
  obtain ⟨Γ, I, F, sa, g⟩ := h
  refine ⟨Γ, I, F, sa, (g.bind (W1 := Wa) (W2 := Wb ++ Wc) (fun i h => List.mem_append_left _ h) (fun i h => List.mem_append_right _ h)).imp fun x Γ1 I1 F1 H1 sa1 s1 g1 v rv => ?_⟩
  refine ⟨Γ1, I1, F1, sa1, (g1.bind (W1 := Wb) (W2 := Wc) (fun i h => List.mem_append_left _ h) (fun i h => List.mem_append_right _ h)).imp fun y Γ2 I2 F2 H2 sa2 s2 g2 u ru => ?_⟩
  cases q : (f x y).bind asB with
  | none => rw [q] at g2; exact g2.elim
  | some k =>
    rw [q] at g2
    obtain ⟨z, e1, e2⟩ := Option.bind_eq_some_iff.mp q
    have e3 : z = .bl k := by cases z <;> first | (cases e2; rfl) | cases e2
    subst e3
    refine ho _ _ _ _ _ _ k _ ((rv.stp sa1 s2 hd).reg (J.mono (B' := Ba ++ Bb) fun i h => List.mem_append_left _ h)) (ru.reg (J.mono fun i h => List.mem_append_right _ h)) e1 ⟨k, rfl, ?_⟩
    cases k with
    | false => exact g2.here sa2 _ (.bl _)
    | true =>
      show tD R Wx fc Bc Wc σ H2 fun w' H4 => r' u w' H4 Q
      have g2 : Go R Wx Wc I2 F2 σ H2 ((fc Γ2).bind fun z Γ4 => optO (f' y z) Γ4) (kE R (Ba ++ (Bb ++ Bc)) Q) := g2
      refine ⟨Γ2, I2, F2, sa2, (g2.bind (W1 := Wc) (W2 := []) (fun i h => h) (fun i h => nomatch h)).imp fun z Γ3 I3 F3 H3 sa3 s3 g3 w rw' => ?_⟩
      cases q3 : f' y z with
      | none => rw [q3] at g3; exact g3.elim
      | some z' =>
        rw [q3] at g3
        exact ho' _ _ _ _ _ _ _ _ ((ru.stp sa2 s3 hd2).reg (J.mono fun i h => List.mem_append_right _ (List.mem_append_left _ h))) (rw'.reg (J.mono fun i h => List.mem_append_right _ (List.mem_append_right _ h))) q3 (g3.fin sa3)
theorem de_chain {op op' : CmpOp} {r r' : R2} {f f' : D → D → Option D} {fa fb fc : M D} (hr : OpR X (compareOp op) r) (hr' : OpR X (compareOp op') r') (ho : OpsB R r f) (ho' : Ops R r' f') (ha : PE X a (tD R Wx fa Ba Wa)) (hb : PE X b (tD R Wx fb Bb Wb)) (hc : PE X c (tD R Wx fc Bc Wc))
    (hm : lastMarks [op, op'] [b, c] = false := by with_unfolding_all rfl) (hd : ∀ i ∈ Ba, i ∉ Wb := by decide) (hd2 : ∀ i ∈ Bb, i ∉ Wc := by decide) : PE X (.Compare a [op, op'] [b, c] pos) (tD R Wx (mChain f f' fa fb fc) (Ba ++ (Bb ++ Bc)) (Wa ++ (Wb ++ Wc))) :=
  PE.imp (pe_chain hr hr' ha hb hc hm) fun σ H Q h => chain_core ho ho' hd hd2 h
theorem dt_chain {op op' : CmpOp} {r r' : R2} {f f' : D → D → Option D} {fa fb fc : M D} (hr : OpR X (compareOp op) r) (hr' : OpR X (compareOp op') r') (ho : OpsB R r f) (ho' : Ops R r' f') (ha : PE X a (tD R Wx fa Ba Wa)) (hb : PE X b (tD R Wx fb Bb Wb)) (hc : PE X c (tD R Wx fc Bc Wc))
    (hm : lastMarks [op, op'] [b, c] = false := by with_unfolding_all rfl) (hd : ∀ i ∈ Ba, i ∉ Wb := by decide) (hd2 : ∀ i ∈ Bb, i ∉ Wc := by decide) : PT X (.Compare a [op, op'] [b, c] pos) (tDT R Wx (mTB (mChain f f' fa fb fc)) (Wa ++ (Wb ++ Wc))) :=
  PT.imp (pt_chain hr hr' ha hb hc hm) fun σ H Q h => test_core (fun σ H Q h => chain_core ho ho' hd hd2 h) h
theorem ord_opsB {p : Int → Int → Bool} {q : Str → Str → Bool} : OpsB R (rOrd p q) (ordD p q) := by
  intro I H x y dx dy k Q rx ry e hq
  unfold ordD at e
  split at e
  · cases e; cases rx; cases ry
    exact .inl ⟨_, _, rfl, rfl, hq⟩
  · cases e; cases rx; cases ry
    exact .inr ⟨_, _, rfl, rfl, hq⟩
  · cases e
end
end Dl
/-! DL4: argument lists, displays, subscripts, slices, built-in functions. -/
namespace Dl
open PySem PySem.Spec PyProof.Rows L2
section
variable {X : Cx} {R : RX} {Wx : WX} {W Wa Wb Wc B Ba Bb Bc : List Nat} {a b c e : Expr} {es rest : List Expr} {pos : Pos}
/-! ### argument lists -/
def mNil : M (List D) := fun Γ => .ok [] Γ
def mCons (fa : M D) (fr : M (List D)) : M (List D) := fun Γ => (fa Γ).bind fun x Γ1 => (fr Γ1).bind fun xs Γ2 => .ok (x :: xs) Γ2
theorem da_nil : PA X [] (tDA R Wx mNil [] []) := PA.imp pa_nil fun σ H Q ⟨Γ, I, F, sa, g⟩ => g.here sa _ .nil
theorem da_cons {fa : M D} {fr : M (List D)} (ha : PE X e (tD R Wx fa Ba Wa)) (hr : PA X es (tDA R Wx fr Bb Wb)) (hd : ∀ i ∈ Ba, i ∉ Wb := by decide)
    (hs : starEach (e :: es) X.env = (false, eval e X.env) :: starEach es X.env := by rfl) : PA X (e :: es) (tDA R Wx (mCons fa fr) (Ba ++ Bb) (Wa ++ Wb)) :=
  PA.imp (pa_cons ha hr hs) fun σ H Q ⟨Γ, I, F, sa, g⟩ => by
    refine ⟨Γ, I, F, sa, (g.bind (W1 := Wa) (W2 := Wb) (fun i h => List.mem_append_left _ h) (fun i h => List.mem_append_right _ h)).imp fun x Γ1 I1 F1 H1 sa1 s1 g1 v rv => ?_⟩
    refine ⟨Γ1, I1, F1, sa1, (g1.bind (W1 := Wb) (W2 := []) (fun i h => h) (fun i h => nomatch h)).imp fun y Γ2 I2 F2 H2 sa2 s2 g2 u ru => ?_⟩
    exact g2.here sa2 _ (.cons ((rv.stp sa1 s2 hd).reg (J.mono fun i h => List.mem_append_left _ h)) (ru.reg (J.mono fun i h => List.mem_append_right _ h)))
/-! ### displays -/
def mTup (f : M (List D)) : M D := fun Γ => (f Γ).bind fun xs Γ1 => if xs.length ≤ sizeLine then .ok (.tup xs) Γ1 else .bad
def mLst (f : M (List D)) : M D := fun Γ => (f Γ).bind fun xs Γ1 => if xs.length ≤ sizeLine then .ok (.lst xs) Γ1 else .bad
theorem de_tup {f : M (List D)} {k : Nat} (h : PA X es (tDA R Wx f B W)) : PE X (.Tuple es k pos) (tD R Wx (mTup f) B W) := PE.imp (pe_tup h) fun σ H Q ⟨Γ, I, F, sa, g⟩ => by
  refine ⟨Γ, I, F, sa, (g.bind (W1 := W) (W2 := []) (fun i h => h) (fun i h => nomatch h)).imp fun xs Γ1 I1 F1 H1 sa1 s1 g1 vs rv => ?_⟩
  split at g1
  · rename_i hz
    exact ⟨by rw [rv.length]; exact hz, new_tup (g1.fin sa1) rv⟩
  · exact g1.elim
theorem de_lst {f : M (List D)} (h : PA X es (tDA R Wx f B W)) : PE X (.List es pos) (tD R Wx (mLst f) B W) := PE.imp (pe_lst h) fun σ H Q ⟨Γ, I, F, sa, g⟩ => by
  refine ⟨Γ, I, F, sa, (g.bind (W1 := W) (W2 := []) (fun i h => h) (fun i h => nomatch h)).imp fun xs Γ1 I1 F1 H1 sa1 s1 g1 vs rv => ?_⟩
  split at g1
  · rename_i hz
    exact ⟨by rw [rv.length]; exact hz, new_lst (g1.fin sa1) rv⟩
  · exact g1.elim
/-! ### subscripts -/
def ixD (x y : D) : Option D := match x, y with
  | .lst l, .int i => atI l i
  | .tup l, .int i => atI l i
  | .scr l, .int i => (atI l i).map .int
  | .str z, .int i => if z.length ≤ sizeLine then (atI z.cps.toList i).map fun c => .str ⟨#[c]⟩ else none
  | _, _ => none
theorem ixN_eq {m n : Nat} (h : m = n) (i : Int) : ixN m i = ixN n i := by rw [h]
theorem Reps.at {I : Addr → Prop} {H : Hp} {xs : List V} {ds : List D} {i : Int} {d : D} (r : Reps R I H xs ds) (h : atI ds i = some d) : ∃ v, atI xs i = some v ∧ Rep R I H v d := by
  unfold atI at h ⊢
  obtain ⟨j, e1, e2⟩ := Option.bind_eq_some_iff.mp h
  obtain ⟨v, e3, q⟩ := r.get e2
  exact ⟨v, by rw [r.length, e1]; exact e3, q⟩
theorem at_map {α β : Type} (f : α → β) (l : List α) (i : Int) : atI (l.map f) i = (atI l i).map f := by
  unfold atI
  rw [List.length_map]
  cases ixN l.length i with
  | none => rfl
  | some j => simp
theorem ix_ops : Ops R (rIx R.K) ixD := by
  intro I H x y dx dy z Q rx ry e k
  unfold ixD at e
  split at e
  · cases ry
    cases rx with
    | lst h1 h2 r =>
    obtain ⟨v, e1, q⟩ := r.at e
    exact .inl ⟨_, _, _, v, rfl, rfl, .of h2, e1, here2 k q⟩
  · cases ry
    cases rx with
    | tup h2 r =>
    obtain ⟨v, e1, q⟩ := r.at e
    exact .inr (.inl ⟨_, _, _, v, rfl, rfl, h2, e1, here2 k q⟩)
  · cases ry
    cases rx with
    | scr h =>
    obtain ⟨n, e1, rfl⟩ := Option.map_eq_some_iff.mp e
    exact .inl ⟨_, _, _, .int n, rfl, rfl, h.sq, by rw [at_map, e1]; rfl, here2 k (.int n)⟩
  · split at e
    · rename_i hz
      obtain ⟨n, e1, rfl⟩ := Option.map_eq_some_iff.mp e
      cases ry; cases rx
      exact .inr (.inr ⟨_, _, n, rfl, rfl, hz, e1, here2 k (.str _)⟩)
    · cases e
  · cases e
theorem de_ix {fa fb : M D} (hK : R.K = X.K) (ha : PE X a (tD R Wx fa Ba Wa)) (hb : PE X b (tD R Wx fb Bb Wb)) (hs : PlainIx b := by exact fun _ _ => rfl) (hd : ∀ i ∈ Ba, i ∉ Wb := by decide) :
    PE X (.Subscript a b pos) (tD R Wx (mBin ixD fa fb) (Ba ++ Bb) (Wa ++ Wb)) := PE.imp (pe_ix (hK ▸ ix_seq) ha hb hs) fun σ H Q h => bin_core ix_ops hd h
/-- an item of an own container: nothing is borrowed -/
def mOwnIx (i : Nat) (fb : M D) : M D := fun Γ => match getO Γ i with
  | none => .bad
  | some _ => (fb Γ).bind fun y Γ1 => optO ((getO Γ1 i).bind fun x => ixD x y) Γ1
/-! ### slices -/
def mNoPart : M (Option Int) := fun Γ => .ok none Γ
def asI : D → Option Int
  | .int i => some i
  | _ => none
def mPart (f : M D) : M (Option Int) := fun Γ => (f Γ).bind fun d Γ1 => (optO (asI d) Γ1).bind fun i Γ2 => .ok (some i) Γ2
def kO (Q : Option Int → Hp → Prop) : Option Int → Env → (Addr → Prop) → Fps → Hp → Prop := fun b _ _ _ H' => Q b H'
def tDO (R : RX) (Wx : WX) (f : M (Option Int)) (W : List Nat) : TO := fun σ H Q => ∃ Γ I F, SA R I F Γ σ H ∧ Go R Wx W I F σ H (f Γ) (kO Q)
theorem PO.imp {x : Option Expr} {t t' : TO} (h : PO X x t) (f : ∀ σ H Q, t' σ H Q → t σ H Q) : PO X x t' := ⟨fun pins s σ H Q I x => h.run pins s σ H Q I (f σ H Q x)⟩
theorem do_none : PO X none (tDO R Wx mNoPart []) := PO.imp po_none fun σ H Q ⟨Γ, I, F, sa, g⟩ => g.here sa
theorem do_some {f : M D} (h : PE X e (tD R Wx f B W)) : PO X (some e) (tDO R Wx (mPart f) W) := PO.imp (po_some h) fun σ H Q ⟨Γ, I, F, sa, g⟩ => by
  refine ⟨Γ, I, F, sa, (g.bind (W1 := W) (W2 := []) (fun i h => h) (fun i h => nomatch h)).imp fun x Γ1 I1 F1 H1 sa1 s1 g1 v rv => ?_⟩
  cases q : asI x with
  | none => rw [q] at g1; exact g1.elim
  | some i =>
    rw [q] at g1
    have e : x = .int i := by cases x <;> first | (cases q; rfl) | cases q
    subst e
    cases rv
    exact ⟨i, rfl, g1.here sa1⟩
def cutD {α : Type} (xs : List α) (lo hi : Option Int) : List α := (xs.drop (HT.sIx xs.length 0 lo)).take (HT.sIx xs.length xs.length hi - HT.sIx xs.length 0 lo)
def slD (x : D) (lo hi : Option Int) : Option D := match x with
  | .lst l => some (.lst (cutD l lo hi))
  | .tup l => some (.tup (cutD l lo hi))
  | .scr l => some (.lst ((cutD l lo hi).map .int))
  | .str z => if z.length ≤ sizeLine then some (.str (cutS z lo hi)) else none
  | _ => none
def mSl (f : M D) (fl fh : M (Option Int)) : M D := fun Γ => (f Γ).bind fun x Γ1 => (fl Γ1).bind fun lo Γ2 => (fh Γ2).bind fun hi Γ3 => optO (slD x lo hi) Γ3
def rSlQ (K : PySem.W.Frag) : V → Option Int → Option Int → Hp → VK → Prop := fun x lo hi H Q => rSlL K x lo hi H Q ∨ rSlA K x lo hi H Q ∨ rSlS x lo hi H Q
theorem sr_all : SlR X (rSlQ X.K) := sl_list.or (sl_tupA.or sl_str)
theorem Reps.cut {I : Addr → Prop} {H : Hp} {xs : List V} {ds : List D} (r : Reps R I H xs ds) (lo hi : Option Int) : Reps R I H (cutV xs lo hi) (cutD ds lo hi) := by
  unfold cutV cutD
  rw [r.length]
  exact (r.drop _).take _
theorem Reps.ints {I : Addr → Prop} {H : Hp} : ∀ l : List Int, Reps R I H (l.map V.int) (l.map D.int)
  | [] => .nil
  | i :: l => .cons (.int i) (Reps.ints l)
theorem cut_map {α β : Type} (f : α → β) (l : List α) (lo hi : Option Int) : cutD (l.map f) lo hi = (cutD l lo hi).map f := by
  unfold cutD
  rw [List.length_map, List.map_take, List.map_drop]
theorem sl_ok {I : Addr → Prop} {H : Hp} {x : V} {dx z : D} {lo hi : Option Int} {Q : VK} (rx : Rep R I H x dx) (e : slD dx lo hi = some z)
    (k : ∀ u I' H', Same H H' → (∀ a, I a → I' a) → (∀ a, I' a → I a ∨ H a = none) → Rep R I' H' u z → Q u H') : rSlQ R.K x lo hi H Q := by
  unfold slD at e
  split at e
  · cases e
    cases rx with
    | lst h1 h2 r =>
    exact .inl ⟨_, _, rfl, .of h2, new_lst k (r.cut lo hi)⟩
  · cases e
    cases rx with
    | @tup a xs _ h2 r =>
    refine .inr (.inl ⟨_, _, rfl, h2, fun hw => ?_, fun _ => new_tup k (r.cut lo hi)⟩)
    have ec : cutV xs lo hi = xs := by
      unfold cutV
      rw [hw.1, hw.2, List.drop_zero, Nat.sub_zero, List.take_length]
    have rc := r.cut lo hi
    rw [ec] at rc
    exact here2 k (.tup h2 rc)
  · cases e
    cases rx with
    | scr h =>
    refine .inl ⟨_, _, rfl, h.sq, new_lst k ?_⟩
    have ec : ∀ l : List Int, cutV (l.map V.int) lo hi = (cutD l lo hi).map V.int := fun l => cut_map V.int l lo hi
    rw [ec]
    exact Reps.ints _
  · split at e
    · rename_i hz
      cases e; cases rx
      exact .inr (.inr ⟨_, rfl, hz, here2 k (.str _)⟩)
    · cases e
  · cases e
theorem de_sl {f : M D} {fl fh : M (Option Int)} {lo hi : Option Expr} {p2 : Pos} (hK : R.K = X.K) (he : PE X e (tD R Wx f B Wa)) (hl : PO X lo (tDO R Wx fl Wb)) (hh : PO X hi (tDO R Wx fh Wc)) (hd : ∀ i ∈ B, i ∉ Wb := by decide) (hd2 : ∀ i ∈ B, i ∉ Wc := by decide) :
    PE X (.Subscript e (.Slice lo hi none p2) pos) (tD R Wx (mSl f fl fh) B (Wa ++ (Wb ++ Wc))) := PE.imp (pe_slice sr_all he hl hh) fun σ H Q ⟨Γ, I, F, sa, g⟩ => by
  refine ⟨Γ, I, F, sa, (g.bind (W1 := Wa) (W2 := Wb ++ Wc) (fun i h => List.mem_append_left _ h) (fun i h => List.mem_append_right _ h)).imp fun x Γ1 I1 F1 H1 sa1 s1 g1 v rv => ?_⟩
  refine ⟨Γ1, I1, F1, sa1, (g1.bind (W1 := Wb) (W2 := Wc) (fun i h => List.mem_append_left _ h) (fun i h => List.mem_append_right _ h)).imp fun y Γ2 I2 F2 H2 sa2 s2 g2 => ?_⟩
  refine ⟨Γ2, I2, F2, sa2, (g2.bind (W1 := Wc) (W2 := []) (fun i h => h) (fun i h => nomatch h)).imp fun z Γ3 I3 F3 H3 sa3 s3 g3 => ?_⟩
  cases q : slD x y z with
  | none => rw [q] at g3; exact g3.elim
  | some d =>
    rw [q] at g3
    exact hK ▸ sl_ok ((rv.stp sa1 s2 hd).stp sa2 s3 hd2) q (g3.fin sa3)
/-! ### calls of built-in functions -/
/-- what a built-in's reading asks, from data -/
def CallD (R : RX) (r : List V → Hp → VK → Prop) (f : List D → Option D) : Prop := ∀ (I : Addr → Prop) (H : Hp) (xs : List V) (ds : List D) (z : D) (Q : VK), Reps R I H xs ds → f ds = some z →
  (∀ u I' H', Same H H' → (∀ a, I a → I' a) → (∀ a, I' a → I a ∨ H a = none) → Rep R I' H' u z → Q u H') → r xs H Q
def mCB (f : List D → Option D) (fa : M (List D)) : M D := fun Γ => (fa Γ).bind fun xs Γ1 => optO (f xs) Γ1
theorem cb_core {r : List V → Hp → VK → Prop} {f : List D → Option D} {fa : M (List D)} (ho : CallD R r f) {σ : L2.St} {H : Hp} {Q : VK} (h : tD R Wx (mCB f fa) B W σ H Q) : tCB r (tDA R Wx fa B W) σ H Q := by
  obtain ⟨Γ, I, F, sa, g⟩ := h
  refine ⟨Γ, I, F, sa, (g.bind (W1 := W) (W2 := []) (fun i h => h) (fun i h => nomatch h)).imp fun x Γ1 I1 F1 H1 sa1 s1 g1 v rv => ?_⟩
  cases q : f x with
  | none => rw [q] at g1; exact g1.elim
  | some z =>
    rw [q] at g1
    exact ho _ _ _ _ _ _ rv q (g1.fin sa1)
theorem de_callB {id : String} {x : Str} {p : Pos} {r : List V → Hp → VK → Prop} {f : List D → Option D} {fa : M (List D)} (hc : CallR X (.builtin id) r) (ho : CallD R r f) (hg : Gl X x) (hm : X.mg x = none) (hv : bootBuiltins x = some (.builtin id)) (ha : PA X (e :: es) (tDA R Wx fa B W))
    (hn : x ≠ "__name__" := by decide) (hdb : (x == ("__debug__" : Str)) = false := by decide) (he : starEach (e :: es) X.env = (false, eval e X.env) :: starEach es X.env := by rfl) (hpl : (backTo pos (starEach es X.env)).any (·.1) = false := by rfl) :
    PE X (.Call (.Name x p) (e :: es) [] pos) (tD R Wx (mCB f fa) B W) := PE.imp (pe_callB hc hg hm hv ha hn hdb he hpl) fun σ H Q h => cb_core ho h
theorem de_callTy {T : String} {x : Str} {p : Pos} {r : List V → Hp → VK → Prop} {f : List D → Option D} {fa : M (List D)} (hc : CallR X (.type T) r) (ho : CallD R r f) (hg : Gl X x) (hm : X.mg x = none) (hv : bootBuiltins x = some (.type T)) (ha : PA X (e :: es) (tDA R Wx fa B W))
    (hn : x ≠ "__name__" := by decide) (hdb : (x == ("__debug__" : Str)) = false := by decide) (he : starEach (e :: es) X.env = (false, eval e X.env) :: starEach es X.env := by rfl) (hpl : (backTo pos (starEach es X.env)).any (·.1) = false := by rfl) :
    PE X (.Call (.Name x p) (e :: es) [] pos) (tD R Wx (mCB f fa) B W) := PE.imp (pe_callTy hc hg hm hv ha hn hdb he hpl) fun σ H Q h => cb_core ho h
theorem CallR.or {f : Value} {r r' : List V → Hp → VK → Prop} (h : CallR X f r) (h' : CallR X f r') : CallR X f (fun xs H Q => r xs H Q ∨ r' xs H Q) := by
  intro pins s σ H xs us Q I rs q
  rcases q with q | q
  · exact h pins s σ H xs us Q I rs q
  · exact h' pins s σ H xs us Q I rs q
theorem CallR.imp {f : Value} {r r' : List V → Hp → VK → Prop} (h : CallR X f r) (i : ∀ xs H Q, r' xs H Q → r xs H Q) : CallR X f r' := fun pins s σ H xs us Q I rs q => h pins s σ H xs us Q I rs (i _ _ _ q)
theorem reps1 {I : Addr → Prop} {H : Hp} {xs : List V} {d : D} (r : Reps R I H xs [d]) : ∃ v, xs = [v] ∧ Rep R I H v d := by
  cases r with
  | cons h t => cases t; exact ⟨_, rfl, h⟩
theorem reps2 {I : Addr → Prop} {H : Hp} {xs : List V} {d c : D} (r : Reps R I H xs [d, c]) : ∃ v u, xs = [v, u] ∧ Rep R I H v d ∧ Rep R I H u c := by
  cases r with
  | cons h t =>
    obtain ⟨u, rfl, q⟩ := reps1 t
    exact ⟨_, _, rfl, h, q⟩
/-! len -/
def lenD : List D → Option D
  | [.lst l] => some (.int l.length)
  | [.tup l] => some (.int l.length)
  | [.scr l] => some (.int l.length)
  | [.str x] => if x.length ≤ sizeLine then some (.int x.length) else none
  | _ => none
def rLenQ (K : PySem.W.Frag) : List V → Hp → VK → Prop := fun xs H Q => (∃ p ys, xs = [.ref p] ∧ (SqL K H p ys ∨ SqT K H p ys) ∧ Q (.int ys.length) H) ∨ ∃ x n, xs = [x] ∧ LenV K x H n ∧ Q (.int n) H
theorem cr_len : CallR X (.builtin "len") (rLenQ X.K) := CallR.or call_len_seq call_len
theorem len_ok : CallD R (rLenQ R.K) lenD := by
  intro I H xs ds z Q r e k
  unfold lenD at e
  split at e
  · cases e
    obtain ⟨v, rfl, q⟩ := reps1 r
    cases q with
    | lst h1 h2 t => exact .inl ⟨_, _, rfl, .inl (.of h2), by rw [t.length]; exact here2 k (.int _)⟩
  · cases e
    obtain ⟨v, rfl, q⟩ := reps1 r
    cases q with
    | tup h2 t => exact .inl ⟨_, _, rfl, .inr h2, by rw [t.length]; exact here2 k (.int _)⟩
  · cases e
    obtain ⟨v, rfl, q⟩ := reps1 r
    cases q with
    | scr h => exact .inl ⟨_, _, rfl, .inl h.sq, by rw [List.length_map]; exact here2 k (.int _)⟩
  · split at e
    · rename_i hz
      cases e
      obtain ⟨v, rfl, q⟩ := reps1 r
      cases q
      exact .inr ⟨_, _, rfl, ⟨hz, rfl⟩, here2 k (.int _)⟩
    · cases e
  · cases e
/-! int, abs, max, min of two -/
def intOf : List D → Option D
  | [.int i] => some (.int i)
  | [.bl k] => some (.int (if k then 1 else 0))
  | _ => none
theorem int_ok : CallD R (fun xs H Q => (∃ i, xs = [V.int i] ∧ Q (.int i) H) ∨ ∃ k, xs = [V.bl k] ∧ Q (.int (if k then 1 else 0)) H) intOf := by
  intro I H xs ds z Q r e k
  unfold intOf at e
  split at e
  · cases e
    obtain ⟨v, rfl, q⟩ := reps1 r
    cases q
    exact .inl ⟨_, rfl, here2 k (.int _)⟩
  · cases e
    obtain ⟨v, rfl, q⟩ := reps1 r
    cases q
    exact .inr ⟨_, rfl, here2 k (.int _)⟩
  · cases e
def absD : List D → Option D
  | [.int i] => some (.int (if i < 0 then -i else i))
  | _ => none
theorem abs_ok : CallD R (fun xs H Q => ∃ i, xs = [V.int i] ∧ Q (.int (if i < 0 then -i else i)) H) absD := by
  intro I H xs ds z Q r e k
  unfold absD at e
  split at e
  · cases e
    obtain ⟨v, rfl, q⟩ := reps1 r
    cases q
    exact ⟨_, rfl, here2 k (.int _)⟩
  · cases e
/-! list, tuple -/
def listD : List D → Option D
  | [.lst l] => some (.lst l)
  | [.tup l] => some (.lst l)
  | [.scr l] => some (.lst (l.map .int))
  | _ => none
theorem list_ok : CallD R (fun xs H Q => ∃ p ys, xs = [.ref p] ∧ (SqL R.K H p ys ∨ SqT R.K H p ys) ∧ ∀ l, H l = none → Q (.ref l) (upd H l (.lst ys))) listD := by
  intro I H xs ds z Q r e k
  unfold listD at e
  split at e
  · cases e
    obtain ⟨v, rfl, q⟩ := reps1 r
    cases q with
    | lst h1 h2 t => exact ⟨_, _, rfl, .inl (.of h2), new_lst k t⟩
  · cases e
    obtain ⟨v, rfl, q⟩ := reps1 r
    cases q with
    | tup h2 t => exact ⟨_, _, rfl, .inr h2, new_lst k t⟩
  · cases e
    obtain ⟨v, rfl, q⟩ := reps1 r
    cases q with
    | scr h => exact ⟨_, _, rfl, .inl h.sq, new_lst k (Reps.ints _)⟩
  · cases e
def tupleD : List D → Option D
  | [.lst l] => some (.tup l)
  | [.tup l] => some (.tup l)
  | [.scr l] => some (.tup (l.map .int))
  | _ => none
theorem tuple_ok : CallD R (fun xs H Q => ∃ p ys, xs = [.ref p] ∧ ((SqL R.K H p ys ∧ ∀ l, H l = none → Q (.ref l) (upd H l (.tup ys))) ∨ (SqT R.K H p ys ∧ Q (.ref p) H))) tupleD := by
  intro I H xs ds z Q r e k
  unfold tupleD at e
  split at e
  · cases e
    obtain ⟨v, rfl, q⟩ := reps1 r
    cases q with
    | lst h1 h2 t => exact ⟨_, _, rfl, .inl ⟨.of h2, new_tup k t⟩⟩
  · cases e
    obtain ⟨v, rfl, q⟩ := reps1 r
    cases q with
    | tup h2 t => exact ⟨_, _, rfl, .inr ⟨h2, here2 k (.tup h2 t)⟩⟩
  · cases e
    obtain ⟨v, rfl, q⟩ := reps1 r
    cases q with
    | scr h => exact ⟨_, _, rfl, .inl ⟨h.sq, new_tup k (Reps.ints _)⟩⟩
  · cases e
/-! rows of ints: sum, max, min -/
def intsD : List D → Option (List Int)
  | [] => some []
  | .int i :: l => (intsD l).map (i :: ·)
  | _ :: _ => none
theorem Reps.allInt {I : Addr → Prop} {H : Hp} : ∀ {xs : List V} {ds : List D} {ns : List Int}, Reps R I H xs ds → intsD ds = some ns → xs = ns.map V.int
  | _, _, ns, .nil, e => by cases e; rfl
  | _, _, ns, .cons (d := d) h t, e => by
    cases d <;> first | cases e; done | skip
    rename_i i
    obtain ⟨l, e1, rfl⟩ := Option.map_eq_some_iff.mp (show (intsD _).map (i :: ·) = some ns from e)
    cases h
    rw [Reps.allInt t e1]
    rfl
def bestI (p : Int → Int → Bool) : List Int → Int
  | [] => 0
  | [i] => i
  | i :: l => let m := bestI p l; if p i m then i else m
theorem bestI_max : ∀ {l : List Int}, l ≠ [] → bestI (fun a b => decide (b ≤ a)) l ∈ l ∧ ∀ y ∈ l, y ≤ bestI (fun a b => decide (b ≤ a)) l
  | [], h => (h rfl).elim
  | [i], _ => ⟨List.mem_cons_self, fun y h => by
    have : y = i := by simpa using h
    rw [this]; exact Int.le_refl _⟩
  | i :: j :: l, _ => by
    obtain ⟨h1, h2⟩ := bestI_max (l := j :: l) (by simp)
    show (if decide (bestI (fun a b => decide (b ≤ a)) (j :: l) ≤ i) = true then i else bestI (fun a b => decide (b ≤ a)) (j :: l)) ∈ _ ∧ ∀ y ∈ _, y ≤ (if decide (bestI (fun a b => decide (b ≤ a)) (j :: l) ≤ i) = true then i else bestI (fun a b => decide (b ≤ a)) (j :: l))
    split
    · rename_i h
      rw [decide_eq_true_eq] at h
      refine ⟨List.mem_cons_self, fun y hy => ?_⟩
      rcases List.mem_cons.mp hy with e | hy
      · rw [e]; exact Int.le_refl _
      · exact Int.le_trans (h2 y hy) h
    · rename_i h
      rw [decide_eq_true_eq] at h
      refine ⟨List.mem_cons_of_mem _ h1, fun y hy => ?_⟩
      rcases List.mem_cons.mp hy with e | hy
      · rw [e]; omega
      · exact h2 y hy
theorem bestI_min : ∀ {l : List Int}, l ≠ [] → bestI (fun a b => decide (a ≤ b)) l ∈ l ∧ ∀ y ∈ l, bestI (fun a b => decide (a ≤ b)) l ≤ y
  | [], h => (h rfl).elim
  | [i], _ => ⟨List.mem_cons_self, fun y h => by
    have : y = i := by simpa using h
    rw [this]; exact Int.le_refl _⟩
  | i :: j :: l, _ => by
    obtain ⟨h1, h2⟩ := bestI_min (l := j :: l) (by simp)
    show (if decide (i ≤ bestI (fun a b => decide (a ≤ b)) (j :: l)) = true then i else bestI (fun a b => decide (a ≤ b)) (j :: l)) ∈ _ ∧ ∀ y ∈ _, (if decide (i ≤ bestI (fun a b => decide (a ≤ b)) (j :: l)) = true then i else bestI (fun a b => decide (a ≤ b)) (j :: l)) ≤ y
    split
    · rename_i h
      rw [decide_eq_true_eq] at h
      refine ⟨List.mem_cons_self, fun y hy => ?_⟩
      rcases List.mem_cons.mp hy with e | hy
      · rw [e]; exact Int.le_refl _
      · exact Int.le_trans h (h2 y hy)
    · rename_i h
      rw [decide_eq_true_eq] at h
      refine ⟨List.mem_cons_of_mem _ h1, fun y hy => ?_⟩
      rcases List.mem_cons.mp hy with e | hy
      · rw [e]; omega
      · exact h2 y hy
def maxI (l : List Int) : Int := bestI (fun a b => decide (b ≤ a)) l
def minI (l : List Int) : Int := bestI (fun a b => decide (a ≤ b)) l
def sumD : List D → Option D
  | [.lst l] => (intsD l).map fun ns => .int ns.sum
  | _ => none
theorem sum_ok : CallD R (rSum R.K) sumD := by
  intro I H xs ds z Q r e k
  unfold sumD at e
  split at e
  · obtain ⟨v, rfl, q⟩ := reps1 r
    obtain ⟨ns, e1, rfl⟩ := Option.map_eq_some_iff.mp e
    cases q with
    | lst h1 h2 t => exact ⟨_, ns, rfl, .of (by rw [← t.allInt e1]; exact h2), here2 k (.int _)⟩
  · cases e
def maxD : List D → Option D
  | [.lst l] => (intsD l).bind fun ns => if ns.isEmpty then none else some (.int (maxI ns))
  | [.int i, .int j] => some (.int (if j > i then j else i))
  | _ => none
def minD : List D → Option D
  | [.lst l] => (intsD l).bind fun ns => if ns.isEmpty then none else some (.int (minI ns))
  | [.int i, .int j] => some (.int (if j < i then j else i))
  | _ => none
def rMaxQ (K : PySem.W.Frag) : List V → Hp → VK → Prop := fun xs H Q => rMax K xs H Q ∨ ∃ i j, xs = [.int i, .int j] ∧ Q (.int (if j > i then j else i)) H
def rMinQ (K : PySem.W.Frag) : List V → Hp → VK → Prop := fun xs H Q => rMin K xs H Q ∨ ∃ i j, xs = [.int i, .int j] ∧ Q (.int (if j < i then j else i)) H
theorem cr_maxQ (hc : X.calm = true) : CallR X (.builtin "max") (rMaxQ X.K) := CallR.or (cr_max hc) (call_max2 hc)
theorem cr_minQ (hc : X.calm = true) : CallR X (.builtin "min") (rMinQ X.K) := CallR.or (cr_min hc) (call_min2 hc)
theorem max_ok : CallD R (rMaxQ R.K) maxD := by
  intro I H xs ds z Q r e k
  unfold maxD at e
  split at e
  · obtain ⟨v, rfl, q⟩ := reps1 r
    obtain ⟨ns, e1, e2⟩ := Option.bind_eq_some_iff.mp e
    split at e2
    · cases e2
    · rename_i hn
      cases e2
      have hne : ns ≠ [] := fun z => by subst z; exact hn rfl
      cases q with
      | lst h1 h2 t =>
      refine .inl ⟨_, ns, rfl, .of (by rw [← t.allInt e1]; exact h2), List.length_pos_iff.mpr hne, fun m hm hy => ?_⟩
      obtain ⟨b1, b2⟩ := bestI_max hne
      have : m = maxI ns := Int.le_antisymm (b2 m hm) (hy _ b1)
      rw [this]; exact here2 k (.int _)
  · cases e
    obtain ⟨v, u, rfl, q1, q2⟩ := reps2 r
    cases q1; cases q2
    exact .inr ⟨_, _, rfl, here2 k (.int _)⟩
  · cases e
theorem min_ok : CallD R (rMinQ R.K) minD := by
  intro I H xs ds z Q r e k
  unfold minD at e
  split at e
  · obtain ⟨v, rfl, q⟩ := reps1 r
    obtain ⟨ns, e1, e2⟩ := Option.bind_eq_some_iff.mp e
    split at e2
    · cases e2
    · rename_i hn
      cases e2
      have hne : ns ≠ [] := fun z => by subst z; exact hn rfl
      cases q with
      | lst h1 h2 t =>
      refine .inl ⟨_, ns, rfl, .of (by rw [← t.allInt e1]; exact h2), List.length_pos_iff.mpr hne, fun m hm hy => ?_⟩
      obtain ⟨b1, b2⟩ := bestI_min hne
      have : m = minI ns := Int.le_antisymm (hy _ b1) (b2 m hm)
      rw [this]; exact here2 k (.int _)
  · cases e
    obtain ⟨v, u, rfl, q1, q2⟩ := reps2 r
    cases q1; cases q2
    exact .inr ⟨_, _, rfl, here2 k (.int _)⟩
  · cases e
/-! all, any of a list of bools -/
def blsD : List D → Option (List Bool)
  | [] => some []
  | .bl i :: l => (blsD l).map (i :: ·)
  | _ :: _ => none
theorem Reps.allBl {I : Addr → Prop} {H : Hp} : ∀ {xs : List V} {ds : List D} {ns : List Bool}, Reps R I H xs ds → blsD ds = some ns → xs = ns.map V.bl
  | _, _, ns, .nil, e => by cases e; rfl
  | _, _, ns, .cons (d := d) h t, e => by
    cases d <;> first | cases e; done | skip
    rename_i i
    obtain ⟨l, e1, rfl⟩ := Option.map_eq_some_iff.mp (show (blsD _).map (i :: ·) = some ns from e)
    cases h
    rw [Reps.allBl t e1]
    rfl
def allD : List D → Option D
  | [.lst l] => (blsD l).map fun bs => .bl (bs.all id)
  | _ => none
def anyD : List D → Option D
  | [.lst l] => (blsD l).map fun bs => .bl (bs.any id)
  | _ => none
theorem all_ok : CallD R (rAll R.K) allD := by
  intro I H xs ds z Q r e k
  unfold allD at e
  split at e
  · obtain ⟨v, rfl, q⟩ := reps1 r
    obtain ⟨ns, e1, rfl⟩ := Option.map_eq_some_iff.mp e
    cases q with
    | lst h1 h2 t => exact ⟨_, ns, rfl, .of (by rw [← t.allBl e1]; exact h2), here2 k (.bl _)⟩
  · cases e
theorem any_ok : CallD R (rAny R.K) anyD := by
  intro I H xs ds z Q r e k
  unfold anyD at e
  split at e
  · obtain ⟨v, rfl, q⟩ := reps1 r
    obtain ⟨ns, e1, rfl⟩ := Option.map_eq_some_iff.mp e
    cases q with
    | lst h1 h2 t => exact ⟨_, ns, rfl, .of (by rw [← t.allBl e1]; exact h2), here2 k (.bl _)⟩
  · cases e
end
end Dl
/-! DL5: statements. -/
namespace Dl
open PySem PySem.Spec PyProof.Rows L2
/-! ### what holds no container -/
mutual
def free : D → Bool
  | .non | .bl _ | .int _ | .str _ => true
  | .tup l => frees l
  | _ => false
def frees : List D → Bool
  | [] => true
  | d :: ds => free d && frees ds
end
section
variable {R : RX} {I I' : Addr → Prop} {H : Hp}
mutual
theorem Rep.free : ∀ {v : V} {d : D}, Rep R I H v d → free d = true → Rep R I' H v d
  | _, _, .non, _ => .non
  | _, _, .bl b, _ => .bl b
  | _, _, .int i, _ => .int i
  | _, _, .str x, _ => .str x
  | _, _, .tup h r, f => .tup h (Reps.free r (by simpa only [Dl.free] using f))
  | _, _, .scr _, f => by simp only [Dl.free] at f; cases f
  | _, _, .lst .., f => by simp only [Dl.free] at f; cases f
  | _, _, .dct .., f => by simp only [Dl.free] at f; cases f
  | _, _, .ins .., f => by simp only [Dl.free] at f; cases f
theorem Reps.free : ∀ {v : List V} {d : List D}, Reps R I H v d → frees d = true → Reps R I' H v d
  | _, _, .nil, _ => .nil
  | _, _, .cons h r, f => by
    simp only [Dl.frees, Bool.and_eq_true] at f
    exact .cons (Rep.free h f.1) (Reps.free r f.2)
end
theorem RepK.free : ∀ {v : List (Key × V)} {d : List (Key × D)}, RepK R I H v d → (d.all fun p => Dl.free p.2) = true → RepK R I' H v d
  | _, _, .nil, _ => .nil
  | _, _, .cons h r, f => by
    rw [List.all_cons, Bool.and_eq_true] at f
    exact .cons (Rep.free h f.1) (RepK.free r f.2)
end
theorem Rep.notOwn {R : RX} {I : Addr → Prop} {H : Hp} {v : V} {c : D} (h : Rep R I H v (.own c)) : False := by cases h
/-! ### slots frozen, set, forgotten -/
def frz1 (i : Nat) (Γ : Env) : Env := match Γ[i]? with
  | some (some (.own c)) => Γ.set i (some c)
  | _ => Γ
def frz : List Nat → Env → Env
  | [], Γ => Γ
  | i :: B, Γ => frz B (frz1 i Γ)
/-- behind a value d that borrows from B -/
def settle (d : D) (B : List Nat) (Γ : Env) : Env := if free d = true then Γ else frz B Γ
@[simp] theorem settle_nil (d : D) (Γ : Env) : settle d [] Γ = Γ := by unfold settle frz; split <;> rfl
/-- behind an own container's content -/
def free1 : D → Bool
  | .lst l => frees l
  | .dct l => l.all fun p => free p.2
  | _ => false
def settle1 (d : D) (B : List Nat) (Γ : Env) : Env := if free1 d = true then Γ else frz B Γ
@[simp] theorem settle1_nil (d : D) (Γ : Env) : settle1 d [] Γ = Γ := by unfold settle1 frz; split <;> rfl
section
variable {R : RX} {I I' : Addr → Prop} {F F' : Fps} {Γ : Env} {σ σ' : L2.St} {H H' : Hp} {W B : List Nat}
theorem SlotOk.reg {g : Option (Option D)} {s : Option (Option V)} {Fo : Addr → Prop} (h : SlotOk R I H g s Fo) (hi : ∀ a, I a → I' a) : SlotOk R I' H g s Fo := by
  unfold SlotOk at h ⊢
  split at h
  · obtain ⟨v, e, h⟩ := h
    exact ⟨v, e, h.ext .refl hi fun _ _ _ e => e⟩
  · obtain ⟨⟨v, e, h⟩, n⟩ := h
    exact ⟨⟨v, e, h.reg hi⟩, n⟩
  · exact h
theorem SlotOk.iff {g : Option (Option D)} {s : Option (Option V)} {Fo Fo' : Addr → Prop} (h : SlotOk R I H g s Fo) (e : ∀ a, Fo a ↔ Fo' a) : SlotOk R I H g s Fo' := by
  have : Fo = Fo' := funext fun a => propext (e a)
  rw [← this]; exact h
theorem SlotOk.data {d : D} {v : V} {s : Option (Option V)} {Fo : Addr → Prop} (r : Rep R I H v d) (e : s = some (some v)) (n : ∀ a, ¬ Fo a) : SlotOk R I H (some (some d)) s Fo := by
  unfold SlotOk
  split
  · rename_i c q
    cases q
    exact r.notOwn.elim
  · rename_i d' _ q
    cases q
    exact ⟨⟨v, e, r⟩, n⟩
  · rename_i n1 n2
    exact (n2 _ rfl).elim
theorem SA.frz1 (sa : SA R I F Γ σ H) (i : Nat) : SA R (fun a => I a ∨ F i a) (fun j a => j ≠ i ∧ F j a) (Dl.frz1 i Γ) σ H := by
  have hi : ∀ a, I a → I a ∨ F i a := fun _ x => .inl x
  refine ⟨?_, fun j => ?_, fun j k a x y => sa.dis j k a x.2 y.2, fun j a x y => ?_, fun a x => ?_, fun j a x => sa.trk j a x.2⟩
  · unfold Dl.frz1
    split
    · rw [List.length_set]; exact sa.len
    · exact sa.len
  · have k := sa.ok j
    by_cases hj : j = i
    · subst hj
      have no : ∀ a, ¬ (j ≠ j ∧ F j a) := fun a x => x.1 rfl
      unfold Dl.frz1
      split
      · rename_i c e
        have hl : j < Γ.length := (List.getElem?_eq_some_iff.mp e).1
        rw [List.getElem?_set_self hl]
        rw [e] at k
        obtain ⟨v, ev, k⟩ := k
        exact .data (k.rep hi fun _ x => .inr x) ev no
      · rename_i n
        refine (k.reg hi).iff fun a => ⟨fun x => ?_, fun x => (no a x).elim⟩
        unfold SlotOk at k
        split at k
        · rename_i c e
          exact (n c e).elim
        · exact (k.2 a x).elim
        · exact (k a x).elim
    · have e : (Dl.frz1 i Γ)[j]? = Γ[j]? := by
        unfold Dl.frz1
        split
        · exact List.getElem?_set_ne (Ne.symm hj)
        · rfl
      rw [e]
      exact (k.reg hi).iff fun a => ⟨fun x => ⟨hj, x⟩, fun x => x.2⟩
  · rcases y with y | y
    · exact sa.apt j a x.2 y
    · exact x.1 (sa.dis j i a x.2 y)
  · rcases x with x | x
    · exact sa.itr a x
    · obtain ⟨o, e, _⟩ := sa.trk i a x
      rw [e]
      exact Option.some_ne_none o
/-- all of B frozen -/
theorem SA.frz : ∀ {B : List Nat} {I : Addr → Prop} {F : Fps} {Γ : Env}, SA R I F Γ σ H → SA R (J I F B) (fun j a => j ∉ B ∧ F j a) (Dl.frz B Γ) σ H
  | [], I, F, Γ, sa => by
    have e0 : ∀ a, J I F [] a → I a := fun a x => by
      rcases x with x | ⟨i, hi, _⟩
      · exact x
      · cases hi
    have e1 : J I F [] = I := funext fun a => propext ⟨e0 a, fun x => .inl x⟩
    have e2 : (fun (j : Nat) (a : Addr) => j ∉ ([] : List Nat) ∧ F j a) = F := funext fun j => funext fun a => propext ⟨fun x => x.2, fun x => ⟨by simp, x⟩⟩
    rw [e1, e2]
    exact sa
  | i :: B, I, F, Γ, sa => by
    have q := SA.frz (B := B) (sa.frz1 i)
    have e1 : J (fun a => I a ∨ F i a) (fun j a => j ≠ i ∧ F j a) B = J I F (i :: B) := funext fun a => propext ⟨fun x => by
      rcases x with (x | x) | ⟨j, hj, _, x⟩
      · exact .inl x
      · exact .inr ⟨i, by simp, x⟩
      · exact .inr ⟨j, by simp [hj], x⟩, fun x => by
      rcases x with x | ⟨j, hj, x⟩
      · exact .inl (.inl x)
      · by_cases e : j = i
        · subst e; exact .inl (.inr x)
        · rcases List.mem_cons.mp hj with z | z
          · exact (e z).elim
          · exact .inr ⟨j, z, e, x⟩⟩
    have e2 : (fun (j : Nat) (a : Addr) => j ∉ B ∧ j ≠ i ∧ F j a) = fun j a => j ∉ i :: B ∧ F j a := funext fun j => funext fun a => propext ⟨fun x => ⟨by simp [x.1, x.2.1], x.2.2⟩, fun x => by
      have h := x.1
      simp only [List.mem_cons, not_or] at h
      exact ⟨h.2, h.1, x.2⟩⟩
    rw [e1, e2] at q
    exact q
/-- a slot set to data -/
theorem SA.set (sa : SA R I F Γ σ H) {i : Nat} {v : V} {d : D} (hi : i < Γ.length) (r : Rep R I H v d) : SA R I (fun j a => j ≠ i ∧ F j a) (Γ.set i (some d)) (σ.set i (some v)) H := by
  refine ⟨by rw [List.length_set, List.length_set]; exact sa.len, fun j => ?_, fun j k a x y => sa.dis j k a x.2 y.2, fun j a x y => sa.apt j a x.2 y, sa.itr, fun j a x => sa.trk j a x.2⟩
  by_cases hj : j = i
  · subst hj
    rw [List.getElem?_set_self hi, List.getElem?_set_self (by rw [← sa.len]; exact hi)]
    exact .data r rfl fun a x => x.1 rfl
  · rw [List.getElem?_set_ne (Ne.symm hj), List.getElem?_set_ne (Ne.symm hj)]
    exact (sa.ok j).iff fun a => ⟨fun x => ⟨hj, x⟩, fun x => x.2⟩
/-- a slot set to an own container -/
theorem SA.setO (sa : SA R I F Γ σ H) {i : Nat} {v : V} {c : D} {Fo : Addr → Prop} (hi : i < Γ.length) (r : ORep R I H v c Fo) (h1 : ∀ a, Fo a → ¬ I a) (h2 : ∀ j a, F j a → ¬ Fo a)
    (h3 : ∀ a, Fo a → ∃ o, H a = some o ∧ (∀ xs, o ≠ .tup xs) ∧ ∀ ob u, o ≠ .frz ob u) : SA R I (fun j a => (j ≠ i ∧ F j a) ∨ (j = i ∧ Fo a)) (Γ.set i (some (.own c))) (σ.set i (some v)) H := by
  refine ⟨by rw [List.length_set, List.length_set]; exact sa.len, fun j => ?_, fun j k a x y => ?_, fun j a x y => ?_, sa.itr, fun j a x => ?_⟩
  · by_cases hj : j = i
    · subst hj
      rw [List.getElem?_set_self hi, List.getElem?_set_self (by rw [← sa.len]; exact hi)]
      have e : (fun a => (j ≠ j ∧ F j a) ∨ (j = j ∧ Fo a)) = Fo := funext fun a => propext ⟨fun x => by
        rcases x with x | x
        · exact (x.1 rfl).elim
        · exact x.2, fun x => .inr ⟨rfl, x⟩⟩
      show ∃ v', some (some v) = some (some v') ∧ ORep R I H v' c _
      rw [e]
      exact ⟨v, rfl, r⟩
    · rw [List.getElem?_set_ne (Ne.symm hj), List.getElem?_set_ne (Ne.symm hj)]
      exact (sa.ok j).iff fun a => ⟨fun x => .inl ⟨hj, x⟩, fun x => by
        rcases x with x | x
        · exact x.2
        · exact (hj x.1).elim⟩
  · rcases x with x | x <;> rcases y with y | y
    · exact sa.dis j k a x.2 y.2
    · exact (h2 j a x.2 y.2).elim
    · exact (h2 k a y.2 x.2).elim
    · rw [x.1, y.1]
  · rcases x with x | x
    · exact sa.apt j a x.2 y
    · exact h1 a x.2 y
  · rcases x with x | x
    · exact sa.trk j a x.2
    · exact h3 a x.2
end
/-! ### steps of statements -/
structure StpS (P : List Nat) (I : Addr → Prop) (F : Fps) (σ : L2.St) (H : Hp) (I' : Addr → Prop) (F' : Fps) (σ' : L2.St) (H' : Hp) : Prop where
  keep : ∀ a o, H a = some o → (∀ i, ¬ F i a) → H' a = some o
  fre : ∀ i a, F' i a → (∃ j, F j a) ∨ H a = none
  ifr : ∀ a, I' a → I a ∨ (∃ j, F j a) ∨ H a = none
  imo : ∀ a, I a → I' a
  dom : ∀ a, H' a = none → H a = none
  pin : ∀ i ∈ P, σ'[i]? = σ[i]?
section
variable {R : RX} {I I' I1 I2 : Addr → Prop} {F F' F1 F2 : Fps} {Γ : Env} {σ σ' σ1 σ2 : L2.St} {H H' H1 H2 : Hp} {W B P : List Nat}
theorem StpS.refl : StpS P I F σ H I F σ H := ⟨fun _ _ h _ => h, fun i a h => .inl ⟨i, h⟩, fun _ h => .inl h, fun _ h => h, fun _ h => h, fun _ _ => rfl⟩
theorem StpS.trans (s : StpS P I F σ H I1 F1 σ1 H1) (t : StpS P I1 F1 σ1 H1 I2 F2 σ2 H2) : StpS P I F σ H I2 F2 σ2 H2 := by
  refine ⟨fun a o e n => t.keep a o (s.keep a o e n) fun i x => ?_, fun i a x => ?_, fun a x => ?_, fun a x => t.imo a (s.imo a x), fun a x => s.dom a (t.dom a x), fun i hi => (t.pin i hi).trans (s.pin i hi)⟩
  · rcases s.fre i a x with ⟨j, y⟩ | y
    · exact n j y
    · rw [y] at e; cases e
  · rcases t.fre i a x with ⟨j, y⟩ | y
    · exact s.fre j a y
    · exact .inr (s.dom a y)
  · rcases t.ifr a x with y | ⟨j, y⟩ | y
    · exact s.ifr a y
    · exact .inr (s.fre j a y)
    · exact .inr (.inr (s.dom a y))
theorem Stp.toS (s : Stp W I F H I' F' H') : StpS P I F σ H I' F' σ H' :=
  ⟨fun a o e n => s.keep a o e fun i _ => n i, fun i a x => by
    rcases s.fre i a x with ⟨j, _, y⟩ | y | y
    · exact .inl ⟨j, y⟩
    · exact .inl ⟨i, y⟩
    · exact .inr y, fun a x => by
    rcases s.ifr a x with y | ⟨j, _, y⟩ | y
    · exact .inl y
    · exact .inr (.inl ⟨j, y⟩)
    · exact .inr (.inr y), s.imo, s.dom, fun _ _ => rfl⟩
theorem SA.extS (sa : SA R I F Γ σ H) (s : StpS P I F σ H I' F' σ' H') : Ext I H H' := by
  refine ⟨fun a o x e => s.keep a o e fun i y => sa.apt i a y x, fun a xs e => s.keep a _ e fun i y => ?_, fun a ob u e => s.keep a _ e fun i y => ?_⟩
  · obtain ⟨o, e', h1, _⟩ := sa.trk i a y
    rw [e] at e'; cases e'
    exact h1 xs rfl
  · obtain ⟨o, e', _, h1⟩ := sa.trk i a y
    rw [e] at e'; cases e'
    exact h1 ob u rfl
/-- the heap as it is; slots but P may be set, owned things frozen, forgotten -/
theorem StpS.set (hi : ∀ a, I a → I' a) (hf : ∀ a, I' a → I a ∨ ∃ j, F j a) (h2 : ∀ i a, F' i a → ∃ j, F j a) (hp : ∀ i ∈ P, σ'[i]? = σ[i]?) : StpS P I F σ H I' F' σ' H :=
  ⟨fun _ _ h _ => h, fun i a x => .inl (h2 i a x), fun a x => by
    rcases hf a x with y | y
    · exact .inl y
    · exact .inr (.inl y), hi, fun _ h => h, hp⟩
end
inductive OutS where
  | next (Γ : Env)
  | ret (d : D) (Γ : Env)
  | brk (Γ : Env)
  | cont (Γ : Env)
  | exc (x : Exc) (Γ : Env)
  | bad
abbrev MS := Env → OutS
def OutS.bind (o : OutS) (f : MS) : OutS := match o with
  | .next Γ => f Γ
  | o => o
@[simp] theorem OutS.bind_next (Γ : Env) (f : MS) : (OutS.next Γ).bind f = f Γ := rfl
@[simp] theorem OutS.bind_ret (d : D) (Γ : Env) (f : MS) : (OutS.ret d Γ).bind f = .ret d Γ := rfl
@[simp] theorem OutS.bind_bad (f : MS) : OutS.bad.bind f = .bad := rfl
@[simp] theorem OutS.bind_exc (x : Exc) (Γ : Env) (f : MS) : (OutS.exc x Γ).bind f = .exc x Γ := rfl
@[simp] theorem OutS.bind_brk (Γ : Env) (f : MS) : (OutS.brk Γ).bind f = .brk Γ := rfl
@[simp] theorem OutS.bind_cont (Γ : Env) (f : MS) : (OutS.cont Γ).bind f = .cont Γ := rfl
/-- from an expression to a statement -/
def Out.thenS {α : Type} (o : Out α) (f : α → Env → OutS) : OutS := match o with
  | .ok a Γ => f a Γ
  | .exc x Γ => .exc x Γ
  | .bad => .bad
@[simp] theorem Out.thenS_ok {α : Type} (a : α) (Γ : Env) (f : α → Env → OutS) : (Out.ok a Γ).thenS f = f a Γ := rfl
@[simp] theorem Out.thenS_exc {α : Type} (x : Exc) (Γ : Env) (f : α → Env → OutS) : (Out.exc x Γ : Out α).thenS f = .exc x Γ := rfl
@[simp] theorem Out.thenS_bad {α : Type} (f : α → Env → OutS) : (Out.bad : Out α).thenS f = .bad := rfl
/-- what is given back: data, or a container of one's own -/
def Own1 (I : Addr → Prop) (F : Fps) (H : Hp) (a : Addr) : Prop := ¬ I a ∧ (∀ j, ¬ F j a) ∧ ∃ o, H a = some o ∧ (∀ xs, o ≠ .tup xs) ∧ ∀ ob u, o ≠ .frz ob u
def RRep (R : RX) (F : Fps) (H : Hp) (I' : Addr → Prop) (F' : Fps) (H' : Hp) (v : V) (d : D) : Prop := match d with
  | .own c => ∃ Fo, ORep R I' H' v c Fo ∧ ∀ a, Fo a → Own1 I' F' H' a ∧ ((∃ j, F j a) ∨ H a = none)
  | d => Rep R I' H' v d
theorem RRep.of {R : RX} {F : Fps} {H : Hp} {I' : Addr → Prop} {F' : Fps} {H' : Hp} {v : V} {d : D} (h : Rep R I' H' v d) : RRep R F H I' F' H' v d := by
  unfold RRep
  split
  · exact h.notOwn.elim
  · exact h
theorem RRep.imp {R : RX} {F F1 : Fps} {H H1 : Hp} {I' : Addr → Prop} {F' : Fps} {H' : Hp} {v : V} {d : D} (h : RRep R F1 H1 I' F' H' v d) (s : ∀ a, (∃ j, F1 j a) ∨ H1 a = none → (∃ j, F j a) ∨ H a = none) : RRep R F H I' F' H' v d := by
  unfold RRep at h ⊢
  split at h
  · obtain ⟨Fo, h1, h2⟩ := h
    exact ⟨Fo, h1, fun a x => ⟨(h2 a x).1, s a (h2 a x).2⟩⟩
  · exact h
def GoS (R : RX) (Wx : WX) (P : List Nat) (I : Addr → Prop) (F : Fps) (σ : L2.St) (H : Hp) (o : OutS) (E : Ends) : Prop := match o with
  | .next Γ' => ∀ I' F' σ' H', SA R I' F' Γ' σ' H' → StpS P I F σ H I' F' σ' H' → E.nx σ' H'
  | .brk Γ' => ∀ I' F' σ' H', SA R I' F' Γ' σ' H' → StpS P I F σ H I' F' σ' H' → E.bk σ' H'
  | .cont Γ' => ∀ I' F' σ' H', SA R I' F' Γ' σ' H' → StpS P I F σ H I' F' σ' H' → E.ct σ' H'
  | .ret d Γ' => ∀ I' F' σ' H' v, SA R I' F' Γ' σ' H' → StpS P I F σ H I' F' σ' H' → RRep R F H I' F' H' v d → E.rt v H'
  | .exc x Γ' => ∀ I' F' σ' H' cls dx, SA R I' F' Γ' σ' H' → StpS P I F σ H I' F' σ' H' → XRep R I' H' x cls dx → Wx cls dx σ' H'
  | .bad => False
def tDS (R : RX) (Wx : WX) (P : List Nat) (f : MS) : TS := fun E σ H => ∃ Γ I F, SA R I F Γ σ H ∧ GoS R Wx P I F σ H (f Γ) E
section
variable {R : RX} {Wx : WX} {P W W1 W2 B : List Nat} {I I' I1 : Addr → Prop} {F F' F1 : Fps} {Γ : Env} {σ σ' σ1 : L2.St} {H H' H1 : Hp} {E E' : Ends}
/-- later on -/
theorem GoS.after {o : OutS} (h : GoS R Wx P I F σ H o E) (s : StpS P I F σ H I1 F1 σ1 H1) : GoS R Wx P I1 F1 σ1 H1 o E := by
  cases o with
  | next Γ1 => exact fun I' F' σ' H' sa t => h I' F' σ' H' sa (s.trans t)
  | brk Γ1 => exact fun I' F' σ' H' sa t => h I' F' σ' H' sa (s.trans t)
  | cont Γ1 => exact fun I' F' σ' H' sa t => h I' F' σ' H' sa (s.trans t)
  | ret d Γ1 => exact fun I' F' σ' H' v sa t r => h I' F' σ' H' v sa (s.trans t) (r.imp fun a x => by
      rcases x with ⟨j, y⟩ | y
      · exact s.fre j a y
      · exact .inr (s.dom a y))
  | exc x Γ1 => exact fun I' F' σ' H' cls dx sa t r => h I' F' σ' H' cls dx sa (s.trans t) r
  | bad => exact h
theorem GoS.bind {o : OutS} {f : MS} (h : GoS R Wx P I F σ H (o.bind f) E) : GoS R Wx P I F σ H o { E with nx := tDS R Wx P f E } := by
  cases o with
  | next Γ1 => exact fun I' F' σ' H' sa t => ⟨Γ1, I', F', sa, GoS.after (o := f Γ1) h t⟩
  | brk Γ1 => exact h
  | cont Γ1 => exact h
  | ret d Γ1 => exact h
  | exc x Γ1 => exact h
  | bad => exact h
/-- an expression ahead of a statement's end -/
theorem GoS.expr {α : Type} {o : Out α} {f : α → Env → OutS} (h : GoS R Wx P I F σ H (o.thenS f) E) (W : List Nat) : Go R Wx W I F σ H o (fun a Γ1 I1 F1 H1 => GoS R Wx P I1 F1 σ H1 (f a Γ1) E) := by
  cases o with
  | bad => exact h
  | exc x Γ1 => exact fun I' F' H' cls dx sa s r => h I' F' σ H' cls dx sa s.toS r
  | ok a Γ1 => exact fun I' F' H' sa s => GoS.after (o := f a Γ1) h s.toS
/-- behind a value d that borrows from B: slot i is set -/
theorem GoS.setd {i : Nat} {d : D} {v : V} (h : GoS R Wx P I F σ H (.next ((settle d B Γ).set i (some d))) E) (sa : SA R I F Γ σ H) (r : Rep R (J I F B) H v d) (hi : i < Γ.length) (hp : i ∉ P) : E.nx (σ.set i (some v)) H := by
  have pins : ∀ j ∈ P, (σ.set i (some v))[j]? = σ[j]? := fun j hj => List.getElem?_set_ne fun (e : i = j) => hp (by rw [e]; exact hj)
  unfold settle at h
  split at h
  · rename_i hf
    exact h _ _ _ H (sa.set hi (r.free hf)) (.set (fun _ x => x) (fun _ x => .inl x) (fun j a x => ⟨j, x.2⟩) pins)
  · have sb := sa.frz (B := B)
    have hl : i < (Dl.frz B Γ).length := by rw [sb.len, ← sa.len]; exact hi
    refine h _ _ _ H (sb.set hl r) (.set (fun _ x => .inl x) (fun a x => ?_) (fun j a x => ⟨j, x.2.2⟩) pins)
    rcases x with x | ⟨j, _, x⟩
    · exact .inl x
    · exact .inr ⟨j, x⟩
end
section
variable {X : Cx} {R : RX} {Wx : WX} {P W Wa Wb Wc B Ba Bb Bc : List Nat} {a b c e : Expr} {es rest : List Expr} {pos : Pos} {st : Stmt} {sts : List Stmt}
/-! ### blocks, small statements -/
def sNil : MS := fun Γ => .next Γ
def sSeq (f g : MS) : MS := fun Γ => (f Γ).bind g
theorem dss_nil : PSs X [] (tDS R Wx P sNil) := PSs.imp pss_nil fun E σ H ⟨Γ, I, F, sa, g⟩ => g I F σ H sa .refl
theorem dss_cons {f g : MS} (h1 : PS X st (tDS R Wx P f)) (h2 : PSs X sts (tDS R Wx P g)) : PSs X (st :: sts) (tDS R Wx P (sSeq f g)) := PSs.imp (pss_cons h1 h2) fun E σ H ⟨Γ, I, F, sa, q⟩ => ⟨Γ, I, F, sa, q.bind⟩
theorem dss_one {f : MS} (h1 : PS X st (tDS R Wx P f)) : PSs X [st] (tDS R Wx P f) := pss_one h1
def sPass : MS := fun Γ => .next Γ
def sBrk : MS := fun Γ => .brk Γ
def sCont : MS := fun Γ => .cont Γ
theorem ds_pass : PS X (.Pass pos) (tDS R Wx P sPass) := PS.imp ps_pass fun E σ H ⟨Γ, I, F, sa, g⟩ => g I F σ H sa .refl
theorem ds_brk : PS X (.Break pos) (tDS R Wx P sBrk) := PS.imp ps_break fun E σ H ⟨Γ, I, F, sa, g⟩ => g I F σ H sa .refl
theorem ds_cont : PS X (.Continue pos) (tDS R Wx P sCont) := PS.imp ps_continue fun E σ H ⟨Γ, I, F, sa, g⟩ => g I F σ H sa .refl
def sDrop (f : M D) : MS := fun Γ => (f Γ).thenS fun _ Γ1 => .next Γ1
theorem ds_expr {f : M D} (he : PE X e (tD R Wx f B W)) (hs : swapsWith e none pos.line X.env = pure false := by rfl) : PS X (.Expr e pos) (tDS R Wx P (sDrop f)) := PS.imp (ps_expr he hs) fun E σ H ⟨Γ, I, F, sa, g⟩ =>
  ⟨Γ, I, F, sa, (g.expr W).imp fun x Γ1 I1 F1 H1 sa1 s1 g1 v rv => g1 I1 F1 σ H1 sa1 .refl⟩
theorem ds_doc {x : Str} {j : Nat} {pos' : Pos} : PS X (.Expr (.Constant (.str x) j pos) pos') (tDS R Wx P sPass) := PS.imp ps_doc fun E σ H ⟨Γ, I, F, sa, g⟩ => g I F σ H sa .refl
def sRet (B : List Nat) (f : M D) : MS := fun Γ => (f Γ).thenS fun d Γ1 => .ret d (settle d B Γ1)
theorem ds_ret {f : M D} (he : PE X e (tD R Wx f B W)) : PS X (.Return (some e) pos) (tDS R Wx P (sRet B f)) := PS.imp (ps_ret he) fun E σ H ⟨Γ, I, F, sa, g⟩ =>
  ⟨Γ, I, F, sa, (g.expr W).imp fun x Γ1 I1 F1 H1 sa1 s1 g1 v rv => by
    unfold settle at g1
    split at g1
    · rename_i hf
      exact g1 I1 F1 σ H1 v sa1 .refl (.of (rv.free hf))
    · refine g1 _ _ σ H1 v (sa1.frz (B := B)) (.set (fun _ x => .inl x) (fun a x => ?_) (fun j a x => ⟨j, x.2⟩) fun _ _ => rfl) (.of rv)
      rcases x with x | ⟨j, _, x⟩
      · exact .inl x
      · exact .inr ⟨j, x⟩⟩
def sRetN : MS := fun Γ => .ret .non Γ
theorem ds_retN : PS X (.Return none pos) (tDS R Wx P sRetN) := PS.imp ps_retN fun E σ H ⟨Γ, I, F, sa, g⟩ => g I F σ H _ sa .refl (.of .non)
def sIf (c : M Bool) (f g : MS) : MS := fun Γ => (c Γ).thenS fun k Γ1 => if k = true then f Γ1 else g Γ1
theorem ds_if {f g : MS} {fc : M Bool} {sa sb : List Stmt} (hc : PT X c (tDT R Wx fc W)) (ha : PSs X sa (tDS R Wx P f)) (hb : PSs X sb (tDS R Wx P g)) : PS X (.If c sa sb pos) (tDS R Wx P (sIf fc f g)) := PS.imp (ps_if hc ha hb) fun E σ H ⟨Γ, I, F, sa, g⟩ =>
  ⟨Γ, I, F, sa, (g.expr W).imp fun x Γ1 I1 F1 H1 sa1 s1 g1 => by
    cases x with
    | true => exact ⟨Γ1, I1, F1, sa1, g1⟩
    | false => exact ⟨Γ1, I1, F1, sa1, g1⟩⟩
/-- name = value -/
def sSet (i : Nat) (B : List Nat) (f : M D) : MS := fun Γ => (f Γ).thenS fun d Γ1 => if i < Γ1.length then .next ((settle d B Γ1).set i (some d)) else .bad
theorem ds_set {i : Nat} {x : Str} {f : M D} {pos' : Pos} (hN : X.N.Nodup) (hi : X.N[i]? = some x) (hx : Loc X.env.scope x) (he : PE X e (tD R Wx f B W)) (hp : i ∉ P := by decide) (hs : swapsWith e (some (.Name x pos')) pos.line X.env = pure false := by rfl)
    (hf : X.fn x = true ∨ X.env.scope.names.lookup x = some .local := by first | exact .inl rfl | exact .inr rfl | assumption) : PS X (.Assign [.Name x pos'] e pos) (tDS R Wx P (sSet i B f)) := PS.imp (ps_set hN hi hx he hs hf) fun E σ H ⟨Γ, I, F, sa, g⟩ =>
  ⟨Γ, I, F, sa, (g.expr W).imp fun x Γ1 I1 F1 H1 sa1 s1 g1 v rv => by
    split at g1
    · rename_i hl
      exact g1.setd sa1 rv hl hp
    · exact g1.elim⟩
end
end Dl
/-! DL6: targets, loops, comprehensions. -/
namespace Dl
open PySem PySem.Spec PyProof.Rows L2
/-! ### targets -/
abbrev AsT := D → Env → Option Env
/-- slots of T are set; the heap stays -/
def tDG (R : RX) (T : List Nat) (g : AsT) : TG := fun v σ H Q => ∃ Γ I F d, SA R I F Γ σ H ∧ Rep R I H v d ∧ match g d Γ with
  | some Γ' => ∀ F' σ', SA R I F' Γ' σ' H → (∀ i a, F' i a → F i a) → (∀ i, i ∉ T → ∀ a, F i a → F' i a) → σ'.length = σ.length → (∀ i, i ∉ T → σ'[i]? = σ[i]?) → Q σ' H
  | none => False
abbrev AsTs := List D → Env → Option Env
def tDGs (R : RX) (T : List Nat) (g : AsTs) : TGs := fun vs σ H Q => ∃ Γ I F ds, SA R I F Γ σ H ∧ Reps R I H vs ds ∧ match g ds Γ with
  | some Γ' => ∀ F' σ', SA R I F' Γ' σ' H → (∀ i a, F' i a → F i a) → (∀ i, i ∉ T → ∀ a, F i a → F' i a) → σ'.length = σ.length → (∀ i, i ∉ T → σ'[i]? = σ[i]?) → Q σ' H
  | none => False
theorem PG.imp {X : Cx} {e : Expr} {t t' : TG} (h : PG X e t) (f : ∀ v σ H Q, t' v σ H Q → t v σ H Q) : PG X e t' := ⟨fun pins s σ H v u Q I r x => h.run pins s σ H v u Q I r (f v σ H Q x)⟩
theorem PGs.imp {X : Cx} {e : List Expr} {t t' : TGs} (h : PGs X e t) (f : ∀ v σ H Q, t' v σ H Q → t v σ H Q) : PGs X e t' := ⟨fun pins s σ H v u Q I r x => h.run pins s σ H v u Q I r (f v σ H Q x)⟩
def aName (i : Nat) : AsT := fun d Γ => if i < Γ.length then some (Γ.set i (some d)) else none
def aNil : AsTs := fun ds Γ => match ds with
  | [] => some Γ
  | _ => none
def aCons (g : AsT) (h : AsTs) : AsTs := fun ds Γ => match ds with
  | d :: ds => (g d Γ).bind (h ds)
  | _ => none
def aTup (n : Nat) (h : AsTs) : AsT := fun d Γ => match d with
  | .tup ds => if ds.length = n then h ds Γ else none
  | .lst ds => if ds.length = n then h ds Γ else none
  | _ => none
theorem PG.or {X : Cx} {e : Expr} {t t' : TG} (h : PG X e t) (h' : PG X e t') : PG X e (fun v σ H Q => t v σ H Q ∨ t' v σ H Q) :=
  ⟨fun pins s σ H v u Q I r x => x.elim (h.run pins s σ H v u Q I r) (h'.run pins s σ H v u Q I r)⟩
section
variable {X : Cx} {R : RX} {Wx : WX} {P W Wa Wb Wc B Ba Bb Bc T T' : List Nat} {a b c e tg : Expr} {es rest : List Expr} {pos : Pos} {st : Stmt} {sts : List Stmt}
theorem dg_name {i : Nat} {x : Str} (hN : X.N.Nodup) (hi : X.N[i]? = some x) (hx : Loc X.env.scope x) (hf : X.fn x = true ∨ X.env.scope.names.lookup x = some .local := by first | exact .inl rfl | exact .inr rfl | assumption) :
    PG X (.Name x pos) (tDG R [i] (aName i)) := PG.imp (pg_name hN hi hx hf) fun v σ H Q ⟨Γ, I, F, d, sa, r, q⟩ => by
  unfold aName at q
  split at q
  · rename_i Γ' e
    split at e
    · rename_i hl
      cases e
      refine q _ _ (sa.set hl r) (fun j a x => x.2) (fun j hj a x => ⟨fun e => hj (by rw [e]; exact List.mem_cons_self), x⟩) (by rw [List.length_set]) fun j hj => ?_
      exact List.getElem?_set_ne fun (e : i = j) => hj (by rw [e]; exact List.mem_cons_self)
    · cases e
  · exact q.elim
theorem dgs_nil : PGs X [] (tDGs R [] aNil) := PGs.imp pgs_nil fun v σ H Q ⟨Γ, I, F, ds, sa, r, q⟩ => by
  cases r with
  | nil => exact ⟨rfl, q F σ sa (fun _ _ h => h) (fun _ _ _ h => h) rfl fun _ _ => rfl⟩
  | cons => exact q.elim
theorem dgs_cons {g : AsT} {h : AsTs} (h1 : PG X e (tDG R T g)) (h2 : PGs X es (tDGs R T' h)) (hs : (assignEach (e :: es) X.env).map (·.2) = assign e X.env :: (assignEach es X.env).map (·.2) := by rfl) :
    PGs X (e :: es) (tDGs R (T ++ T') (aCons g h)) := PGs.imp (pgs_cons h1 h2 hs) fun v σ H Q ⟨Γ, I, F, ds, sa, r, q⟩ => by
  cases r with
  | nil => exact q.elim
  | @cons v vs d ds r1 r2 =>
    refine ⟨v, vs, rfl, Γ, I, F, d, sa, r1, ?_⟩
    have q' : (match (g d Γ).bind (h ds) with
      | some Γ' => ∀ F' σ', SA R I F' Γ' σ' H → (∀ i a, F' i a → F i a) → (∀ i, i ∉ T ++ T' → ∀ a, F i a → F' i a) → σ'.length = σ.length → (∀ i, i ∉ T ++ T' → σ'[i]? = σ[i]?) → Q σ' H
      | none => False) := q
    cases e1 : g d Γ with
    | none => rw [e1] at q'; exact q'
    | some Γ1 =>
      rw [e1] at q'
      intro F1 σ1 sa1 f1 b1 l1 n1
      refine ⟨Γ1, I, F1, ds, sa1, r2, ?_⟩
      have q2 : (match h ds Γ1 with
        | some Γ' => ∀ F' σ', SA R I F' Γ' σ' H → (∀ i a, F' i a → F i a) → (∀ i, i ∉ T ++ T' → ∀ a, F i a → F' i a) → σ'.length = σ.length → (∀ i, i ∉ T ++ T' → σ'[i]? = σ[i]?) → Q σ' H
        | none => False) := q'
      cases e2 : h ds Γ1 with
      | none => rw [e2] at q2; exact q2
      | some Γ2 =>
        rw [e2] at q2
        intro F2 σ2 sa2 f2 b2 l2 n2
        refine q2 F2 σ2 sa2 (fun i a x => f1 i a (f2 i a x)) (fun i hi a x => by
          rw [List.mem_append, not_or] at hi
          exact b2 i hi.2 a (b1 i hi.1 a x)) (l2.trans l1) fun i hi => ?_
        rw [List.mem_append, not_or] at hi
        rw [n2 i hi.2, n1 i hi.1]
theorem dg_tup {h : AsTs} {k n : Nat} (hK : R.K = X.K) (hc : X.calm = true) (h1 : PGs X es (tDGs R T h)) (hn : (assignEach es X.env).length = n := by rfl) (hst : (assignEach es X.env).findIdx? (·.1) = none := by rfl) :
    PG X (.Tuple es k pos) (tDG R T (aTup n h)) := PG.imp (PG.or (pg_tup hc h1 hn hst) (pg_unl hc h1 hn hst)) fun v σ H Q ⟨Γ, I, F, d, sa, r, q⟩ => by
  cases r with
  | @lst a xs ds _ h2 r =>
    refine .inr ⟨a, xs, rfl, SqL.of h2, ?_⟩
    have q : (match (if ds.length = n then h ds Γ else none) with
      | some Γ' => ∀ F' σ', SA R I F' Γ' σ' H → (∀ i a, F' i a → F i a) → (∀ i, i ∉ T → ∀ a, F i a → F' i a) → σ'.length = σ.length → (∀ i, i ∉ T → σ'[i]? = σ[i]?) → Q σ' H
      | none => False) := q
    by_cases hl : ds.length = n
    · rw [if_pos hl] at q
      exact ⟨by rw [r.length]; exact hl, Γ, I, F, ds, sa, r, q⟩
    · rw [if_neg hl] at q
      exact q.elim
  | @tup a xs ds h2 r =>
    refine .inl ⟨a, xs, rfl, hK ▸ h2, ?_⟩
    have q : (match (if ds.length = n then h ds Γ else none) with
      | some Γ' => ∀ F' σ', SA R I F' Γ' σ' H → (∀ i a, F' i a → F i a) → (∀ i, i ∉ T → ∀ a, F i a → F' i a) → σ'.length = σ.length → (∀ i, i ∉ T → σ'[i]? = σ[i]?) → Q σ' H
      | none => False) := q
    by_cases hl : ds.length = n
    · rw [if_pos hl] at q
      exact ⟨by rw [r.length]; exact hl, Γ, I, F, ds, sa, r, q⟩
    · rw [if_neg hl] at q
      exact q.elim
  | _ => exact q.elim
/-- a, b = value -/
def sAsg (B : List Nat) (f : M D) (g : AsT) : MS := fun Γ => (f Γ).thenS fun d Γ1 => match g d (settle d B Γ1) with
  | some Γ2 => .next Γ2
  | none => .bad
theorem GoS.asg {I : Addr → Prop} {F : Fps} {Γ : Env} {σ : L2.St} {H : Hp} {E : Ends} {g : AsT} {d : D} {v : V} (h : GoS R Wx P I F σ H (match g d (settle d B Γ) with
  | some Γ2 => OutS.next Γ2
  | none => .bad) E) (sa : SA R I F Γ σ H) (r : Rep R (J I F B) H v d) (hT : ∀ i ∈ T, i ∉ P) : tDG R T g v σ H E.nx := by
  have key : ∀ (I1 : Addr → Prop) (F1 : Fps) (Γ1 : Env), SA R I1 F1 Γ1 σ H → Rep R I1 H v d → StpS P I F σ H I1 F1 σ H → GoS R Wx P I F σ H (match g d Γ1 with
      | some Γ2 => OutS.next Γ2
      | none => .bad) E → tDG R T g v σ H E.nx := by
    intro I1 F1 Γ1 sa1 r1 s1 h1
    refine ⟨Γ1, I1, F1, d, sa1, r1, ?_⟩
    cases e : g d Γ1 with
    | none => rw [e] at h1; exact h1
    | some Γ2 =>
      rw [e] at h1
      intro F2 σ2 sa2 f2 b2 l2 n2
      exact h1 I1 F2 σ2 H sa2 (s1.trans (.set (fun _ x => x) (fun _ x => .inl x) (fun i a x => ⟨i, f2 i a x⟩) fun i hi => n2 i fun hT' => hT i hT' hi))
  by_cases hf : free d = true
  · have hs : settle d B Γ = Γ := if_pos hf
    rw [hs] at h
    exact key I F Γ sa (r.free hf) .refl h
  · have hs : settle d B Γ = frz B Γ := if_neg hf
    rw [hs] at h
    refine key _ _ _ (sa.frz (B := B)) r (.set (fun _ x => .inl x) (fun a x => ?_) (fun j a x => ⟨j, x.2⟩) fun _ _ => rfl) h
    rcases x with x | ⟨j, _, x⟩
    · exact .inl x
    · exact .inr ⟨j, x⟩
theorem ds_asg {f : M D} {g : AsT} (he : PE X e (tD R Wx f B W)) (hg : PG X tg (tDG R T g)) (hT : ∀ i ∈ T, i ∉ P := by decide) (hs : swapsWithSole [tg] e pos.line X.env = pure false := by rfl) (hw : swappedStores [tg] e X.env = pure none := by rfl)
    (h1 : (assignEach [tg] X.env).map (·.2) = [assign tg X.env] := by rfl) : PS X (.Assign [tg] e pos) (tDS R Wx P (sAsg B f g)) := PS.imp (ps_asg he hg hs hw h1) fun E σ H ⟨Γ, I, F, sa, g⟩ =>
  ⟨Γ, I, F, sa, (g.expr W).imp fun x Γ1 I1 F1 H1 sa1 s1 g1 v rv => g1.asg sa1 rv hT⟩
/-- a, b = e1, e2 with plain local names -/
def sPar (i j : Nat) (B : List Nat) (f : M (List D)) : MS := fun Γ => (f Γ).thenS fun ds Γ1 => match ds with
  | [d, c] => if i < Γ1.length ∧ j < Γ1.length then .next (((settle (.tup [d, c]) B Γ1).set i (some d)).set j (some c)) else .bad
  | _ => .bad
theorem ds_par {i j : Nat} {x y : Str} {f : M (List D)} {px py pt : Pos} {kt k2 : Nat} {pt2 : Pos} (hc : X.calm = true) (hN : X.N.Nodup) (hi : X.N[i]? = some x) (hj : X.N[j]? = some y) (hij : i ≠ j)
    (hx : X.env.scope.names.lookup x = some .local) (hy : X.env.scope.names.lookup y = some .local) (ha : PA X [a, b] (tDA R Wx f B W))
    (hw : swappedStores [.Tuple [.Name x px, .Name y py] kt pt] (.Tuple [a, b] k2 pt2) X.env = pure (some [x, y])) (hpi : i ∉ P := by decide) (hpj : j ∉ P := by decide)
    (hs : swapsWithSole [.Tuple [.Name x px, .Name y py] kt pt] (.Tuple [a, b] k2 pt2) pos.line X.env = pure false := by rfl) :
    PS X (.Assign [.Tuple [.Name x px, .Name y py] kt pt] (.Tuple [a, b] k2 pt2) pos) (tDS R Wx P (sPar i j B f)) := PS.imp (ps_par hc hN hi hj hij hx hy ha hw hs) fun E σ H ⟨Γ, I, F, sa, g⟩ =>
  ⟨Γ, I, F, sa, (g.expr W).imp fun xs Γ1 I1 F1 H1 sa1 s1 g1 vs rv => by
    split at g1
    · rename_i d c
      obtain ⟨v, u, rfl, r1, r2⟩ := reps2 rv
      refine ⟨v, u, rfl, ?_⟩
      split at g1
      · rename_i hl
        have pins : ∀ k ∈ P, ((σ.set i (some v)).set j (some u))[k]? = σ[k]? := fun k hk => by
          rw [List.getElem?_set_ne fun (e : j = k) => hpj (by rw [e]; exact hk), List.getElem?_set_ne fun (e : i = k) => hpi (by rw [e]; exact hk)]
        have fin : ∀ (I2 : Addr → Prop) (F2 : Fps) (Γ2 : Env), SA R I2 F2 Γ2 σ H1 → Rep R I2 H1 v d → Rep R I2 H1 u c → Γ2.length = Γ1.length → StpS P I1 F1 σ H1 I2 F2 σ H1 →
            GoS R Wx P I1 F1 σ H1 (.next ((Γ2.set i (some d)).set j (some c))) E → E.nx ((σ.set i (some v)).set j (some u)) H1 := by
          intro I2 F2 Γ2 sa2 q1 q2 l2 s2 g2
          have sa3 := (sa2.set (i := i) (by rw [l2]; exact hl.1) q1).set (i := j) (by rw [List.length_set, l2]; exact hl.2) q2
          exact g2 _ _ _ H1 sa3 (s2.trans (.set (fun _ x => x) (fun _ x => .inl x) (fun j a x => ⟨j, x.2.2⟩) pins))
        by_cases hf : free (.tup [d, c]) = true
        · have hs : settle (.tup [d, c]) B Γ1 = Γ1 := if_pos hf
          rw [hs] at g1
          simp only [free, frees, Bool.and_true, Bool.and_eq_true] at hf
          exact fin I1 F1 Γ1 sa1 (r1.free hf.1) (r2.free hf.2) rfl .refl g1
        · have hs : settle (.tup [d, c]) B Γ1 = frz B Γ1 := if_neg hf
          rw [hs] at g1
          refine fin _ _ _ (sa1.frz (B := B)) r1 r2 ?_ (.set (fun _ x => .inl x) (fun a x => ?_) (fun j a x => ⟨j, x.2⟩) fun _ _ => rfl) g1
          · rw [(sa1.frz (B := B)).len, sa1.len]
          · rcases x with x | ⟨j, _, x⟩
            · exact .inl x
            · exact .inr ⟨j, x⟩
      · exact g1.elim
    · exact g1.elim⟩
/-! ### what is walked -/
/-- as long as what I0 tells stays, the walk gives these items -/
def ItD (R : RX) (I0 : Addr → Prop) (H0 : Hp) (ds : List D) (Jt : It) : Prop := ∃ G Y, Walk Jt ds.length G Y ∧ (∀ H1, Ext I0 H0 H1 → G H1) ∧
  ∀ (I1 : Addr → Prop) (H1 : Hp), Ext I0 H0 H1 → (∀ a, I0 a → I1 a) → ∀ i x H2, i < ds.length → Y i H1 x H2 → Same H1 H2 ∧ ∃ d, ds[i]? = some d ∧ Rep R I1 H2 x d
def kI (R : RX) (B : List Nat) (Q : It → Hp → Prop) : List D → Env → (Addr → Prop) → Fps → Hp → Prop := fun ds _ I' F' H' => ∀ Jt, ItD R (J I' F' B) H' ds Jt → Q Jt H'
def tDI (R : RX) (Wx : WX) (f : M (List D)) (B W : List Nat) : TI := fun σ H Q => ∃ Γ I F, SA R I F Γ σ H ∧ Go R Wx W I F σ H (f Γ) (kI R B Q)
theorem PI.imp {t t' : TI} (h : PI X tg e t) (f : ∀ σ H Q, t' σ H Q → t σ H Q) : PI X tg e t' := ⟨fun pins s σ H Q I x => h.run pins s σ H Q I (f σ H Q x)⟩
def seqOf : D → Option (List D)
  | .lst l => some l
  | .scr l => some (l.map .int)
  | _ => none
def mIter (k : D → Option (List D)) (f : M D) : M (List D) := fun Γ => (f Γ).bind fun d Γ1 => optO (k d) Γ1
theorem walkL {I0 : Addr → Prop} {H0 : Hp} {a : Addr} {d : D} {ds : List D} (r : Rep R I0 H0 (.ref a) d) (e : seqOf d = some ds) : (∃ xs, SqL R.K H0 a xs) ∧ ItD R I0 H0 ds (Itl R.K a) := by
  unfold seqOf at e
  split at e
  · cases e
    cases r with
    | @lst _ xs _ h1 h2 r =>
    refine ⟨⟨xs, .of h2⟩, fun H => SqL R.K H a xs, YAt xs, r.length ▸ walk_list, fun H1 x => .of (x.i _ _ h1 h2), fun I1 H1 x hi i v H2 hlt y => ?_⟩
    obtain ⟨rfl, y⟩ := y
    obtain ⟨d, e, q⟩ := r.get' y
    exact ⟨.refl _, d, e, q.ext x hi⟩
  · rename_i ns
    cases e
    cases r with
    | scr h =>
    refine ⟨⟨_, h.sq⟩, fun H => SqL R.K H a (ns.map V.int), YAt (ns.map V.int), ?_, fun H1 x => (x.fat h).sq, fun I1 H1 x hi i v H2 hlt y => ?_⟩
    · have := walk_list (K := R.K) (a := a) (xs := ns.map V.int)
      rw [List.length_map] at this ⊢
      exact this
    · obtain ⟨rfl, y⟩ := y
      rw [List.getElem?_map] at y
      obtain ⟨n, e1, rfl⟩ := Option.map_eq_some_iff.mp y
      exact ⟨.refl _, .int n, by rw [List.getElem?_map, e1]; rfl, .int n⟩
  · cases e
theorem di_list {f : M D} (hK : R.K = X.K) (h : PE X e (tD R Wx f B W)) : PI X tg e (tDI R Wx (mIter seqOf f) B W) := PI.imp (pi_list h) fun σ H Q ⟨Γ, I, F, sa, g⟩ => by
  refine ⟨Γ, I, F, sa, (g.bind (W1 := W) (W2 := []) (fun i h => h) (fun i h => nomatch h)).imp fun d Γ1 I1 F1 H1 sa1 s1 g1 v rv => ?_⟩
  cases q : seqOf d with
  | none => rw [q] at g1; exact g1.elim
  | some ds =>
    rw [q] at g1
    obtain ⟨a, rfl⟩ : ∃ a, v = .ref a := by
      unfold seqOf at q
      split at q
      · cases rv; exact ⟨_, rfl⟩
      · cases rv; exact ⟨_, rfl⟩
      · cases q
    obtain ⟨h1, h2⟩ := walkL rv q
    exact ⟨a, rfl, hK ▸ h1, hK ▸ g1.here sa1 _ h2⟩
def tupOf : D → Option (List D)
  | .tup l => some l
  | _ => none
theorem walkT {I0 : Addr → Prop} {H0 : Hp} {a : Addr} {ds : List D} (r : Rep R I0 H0 (.ref a) (.tup ds)) : (∃ xs, SqT R.K H0 a xs) ∧ ItD R I0 H0 ds (Itt R.K a) := by
  cases r with
  | @tup _ xs _ h2 r =>
  refine ⟨⟨xs, h2⟩, fun H => SqT R.K H a xs, YAt xs, r.length ▸ walk_tup, fun H1 x => x.sqt h2, fun I1 H1 x hi i v H2 hlt y => ?_⟩
  obtain ⟨rfl, y⟩ := y
  obtain ⟨d, e, q⟩ := r.get' y
  exact ⟨.refl _, d, e, q.ext x hi⟩
theorem di_tup {f : M D} (hK : R.K = X.K) (h : PE X e (tD R Wx f B W)) : PI X tg e (tDI R Wx (mIter tupOf f) B W) := PI.imp (pi_tup h) fun σ H Q ⟨Γ, I, F, sa, g⟩ => by
  refine ⟨Γ, I, F, sa, (g.bind (W1 := W) (W2 := []) (fun i h => h) (fun i h => nomatch h)).imp fun d Γ1 I1 F1 H1 sa1 s1 g1 v rv => ?_⟩
  cases q : tupOf d with
  | none => rw [q] at g1; exact g1.elim
  | some ds =>
    rw [q] at g1
    obtain rfl : d = .tup ds := by
      unfold tupOf at q
      split at q
      · cases q; rfl
      · cases q
    obtain ⟨a, rfl⟩ : ∃ a, v = .ref a := by cases rv; exact ⟨_, rfl⟩
    obtain ⟨h1, h2⟩ := walkT rv
    exact ⟨a, rfl, hK ▸ h1, hK ▸ g1.here sa1 _ h2⟩
/-- range -/
def rangeI (lo : Int) (n : Nat) : List D := (List.range n).map fun k : Nat => D.int (lo + (k : Int))
def small62 (i : Int) : Bool := decide (-(2 ^ 62) ≤ i) && decide (i < 2 ^ 62)
def rangeD : List D → Option (List D)
  | [.int j] => if small62 j then some (rangeI 0 j.toNat) else none
  | [.int i, .int j] => if small62 i && small62 j then some (rangeI i (j - i).toNat) else none
  | _ => none
theorem walkR {I0 : Addr → Prop} {H0 : Hp} (lo : Int) (n : Nat) : ItD R I0 H0 (rangeI lo n) (Itr lo n) := by
  refine ⟨fun _ => True, YFn fun i => .int (lo + i), ?_, fun _ _ => trivial, fun I1 H1 x hi i v H2 hlt y => ?_⟩
  · have e : (rangeI lo n).length = n := by unfold rangeI; rw [List.length_map, List.length_range]
    rw [e]
    exact walk_range
  · obtain ⟨rfl, rfl⟩ := y
    unfold rangeI at hlt ⊢
    rw [List.length_map, List.length_range] at hlt
    exact ⟨.refl _, .int (lo + i), by rw [List.getElem?_map, List.getElem?_range hlt]; rfl, .int _⟩
end
end Dl
/-! DL7: for, while, list comprehensions. -/
namespace Dl
open PySem PySem.Spec PyProof.Rows L2
section
variable {X : Cx} {R : RX} {Wx : WX} {P W Wa Wb Wc B Ba Bb Bc T T' : List Nat} {a b c e tg iter elt : Expr} {es rest : List Expr} {pos : Pos} {st : Stmt} {sts body : List Stmt}
/-! ### what is walked: range, any row, zip, enumerate -/
def mRange (f : M (List D)) : M (List D) := fun Γ => (f Γ).bind fun ds Γ1 => optO (rangeD ds) Γ1
theorem small62_ok {i : Int} (h : small62 i = true) : -(2 ^ 62) ≤ i ∧ i < 2 ^ 62 := by
  unfold small62 at h
  rw [Bool.and_eq_true, decide_eq_true_eq, decide_eq_true_eq] at h
  exact h
def rangeD1 : List D → Option (List D)
  | [.int j] => if small62 j then some (rangeI 0 j.toNat) else none
  | _ => none
def rangeD2 : List D → Option (List D)
  | [.int i, .int j] => if small62 i && small62 j then some (rangeI i (j - i).toNat) else none
  | _ => none
def mRange1 (f : M (List D)) : M (List D) := fun Γ => (f Γ).bind fun ds Γ1 => optO (rangeD1 ds) Γ1
def mRange2 (f : M (List D)) : M (List D) := fun Γ => (f Γ).bind fun ds Γ1 => optO (rangeD2 ds) Γ1
theorem di_range1 {f : M (List D)} {p : Pos} (hg : Gl X "range") (hm : X.mg "range" = none) (ha : PA X [a] (tDA R Wx f B W)) (hs : starEach [a] X.env = [(false, eval a X.env)] := by rfl) :
    PI X tg (.Call (.Name "range" p) [a] [] pos) (tDI R Wx (mRange1 f) [] W) := PI.imp (pi_range1 hg hm ha hs) fun σ H Q ⟨Γ, I, F, sa, g⟩ => by
  refine ⟨Γ, I, F, sa, (g.bind (W1 := W) (W2 := []) (fun i h => h) (fun i h => nomatch h)).imp fun ds Γ1 I1 F1 H1 sa1 s1 g1 vs rv => ?_⟩
  cases q : rangeD1 ds with
  | none => rw [q] at g1; exact g1.elim
  | some l =>
    rw [q] at g1
    unfold rangeD1 at q
    split at q
    · obtain ⟨v, rfl, r⟩ := reps1 rv
      cases r
      split at q
      · rename_i hz
        cases q
        obtain ⟨z1, z2⟩ := small62_ok hz
        exact ⟨_, rfl, z1, z2, g1.here sa1 _ (walkR 0 _)⟩
      · cases q
    · cases q
theorem di_range2 {f : M (List D)} {p : Pos} (hg : Gl X "range") (hm : X.mg "range" = none) (ha : PA X [a, b] (tDA R Wx f B W)) (hs : starEach [a, b] X.env = [(false, eval a X.env), (false, eval b X.env)] := by rfl) (hs2 : starEach [b] X.env = [(false, eval b X.env)] := by rfl) :
    PI X tg (.Call (.Name "range" p) [a, b] [] pos) (tDI R Wx (mRange2 f) [] W) := PI.imp (pi_range2 hg hm ha hs hs2) fun σ H Q ⟨Γ, I, F, sa, g⟩ => by
  refine ⟨Γ, I, F, sa, (g.bind (W1 := W) (W2 := []) (fun i h => h) (fun i h => nomatch h)).imp fun ds Γ1 I1 F1 H1 sa1 s1 g1 vs rv => ?_⟩
  cases q : rangeD2 ds with
  | none => rw [q] at g1; exact g1.elim
  | some l =>
    rw [q] at g1
    unfold rangeD2 at q
    split at q
    · obtain ⟨v, u, rfl, r1, r2⟩ := reps2 rv
      cases r1; cases r2
      split at q
      · rename_i hz
        rw [Bool.and_eq_true] at hz
        cases q
        obtain ⟨z1, z2⟩ := small62_ok hz.1
        obtain ⟨z3, z4⟩ := small62_ok hz.2
        exact ⟨_, _, rfl, ⟨z1, z2, z3, z4⟩, g1.here sa1 _ (walkR _ _)⟩
      · cases q
    · cases q
/-- a list, a tuple or a text, as it comes -/
def iAny (K : PySem.W.Frag) (tl : TE) : TI := fun σ H Q => tl σ H fun x H1 => (∃ a xs, x = .ref a ∧ SqL K H1 a xs ∧ Q (Itl K a) H1) ∨ (∃ a xs, x = .ref a ∧ SqT K H1 a xs ∧ Q (Itt K a) H1) ∨ ∃ z, x = .str z ∧ Q (Its z) H1
theorem pi_any {tl : TE} (hl : PE X e tl) : PI X tg e (iAny X.K tl) := by
  constructor
  intro pins s σ H Q I h
  refine thn (hl.run pins s σ H _ I h) fun v s1 ⟨x, H1, I1, r1, q1⟩ => ?_
  have fp : ∀ b ∈ [s1.heap.objs.size], FpOk X pins H1 b := fun b hb => by
    obtain rfl : b = s1.heap.objs.size := by simpa using hb
    exact I1.fpOk (Nat.le_refl _) (I1.hok.fresh (Nat.le_refl _))
  rcases q1 with ⟨a, xs, rfl, hq, q⟩ | ⟨a, xs, rfl, hq, q⟩ | ⟨z, rfl, q⟩
  · cases r1
    obtain ⟨its, _, p, _⟩ := I1.list hq
    exact wpAny_pyIter_list p.isList ⟨_, [s1.heap.objs.size], _, _, H1, rfl, I1.kept (t' := s1.toks) fun b o e => Heap.get?_push_of_some _ e, turn_list a _, ⟨_, Heap.get?_push_size _ rfl, rfl, rfl⟩, fp, q⟩
  · cases r1
    obtain ⟨its, _, p, _⟩ := I1.tuple hq
    exact wpAny_pyIter_tuple (show s1.heap.IsTuple a its.toArray from p) ⟨_, [s1.heap.objs.size], _, _, H1, rfl, I1.kept (t' := s1.toks) fun b o e => Heap.get?_push_of_some _ e, turn_tuple a _, ⟨_, Heap.get?_push_size _ rfl, rfl, rfl⟩, fp, q⟩
  · obtain ⟨t, rfl⟩ := r1
    cases ha : z.cps.all (· < 128)
    · exact wpAny_pyIter_wide ha ⟨_, [s1.heap.objs.size], _, _, H1, rfl, I1.kept (t' := s1.toks) fun b o e => Heap.get?_push_of_some _ e, turn_str _ z t "str_iterator" (.inr rfl), ⟨_, Heap.get?_push_size _ rfl, rfl, rfl⟩, fp, q⟩
    · exact wpAny_pyIter_ascii ha ⟨_, [s1.heap.objs.size], _, _, H1, rfl, I1.kept (t' := s1.toks) fun b o e => Heap.get?_push_of_some _ e, turn_str _ z t "str_ascii_iterator" (.inl rfl), ⟨_, Heap.get?_push_size _ rfl, rfl, rfl⟩, fp, q⟩
def signsD (z : Str) : List D := z.cps.toList.map fun c => .str ⟨#[c]⟩
def anyOf : D → Option (List D)
  | .lst l => some l
  | .tup l => some l
  | .scr l => some (l.map .int)
  | .str z => some (signsD z)
  | _ => none
theorem walkS {I0 : Addr → Prop} {H0 : Hp} (z : Str) : ItD R I0 H0 (signsD z) (Its z) := by
  refine ⟨fun _ => True, fun i H v H' => H' = H ∧ ∃ c, z.cps[i]? = some c ∧ v = .str ⟨#[c]⟩, ?_, fun _ _ => trivial, fun I1 H1 x hi i v H2 hlt y => ?_⟩
  · have e : (signsD z).length = z.cps.size := by unfold signsD; rw [List.length_map, Array.length_toList]
    rw [e]
    exact walk_str
  · obtain ⟨rfl, c, e1, rfl⟩ := y
    refine ⟨.refl _, .str ⟨#[c]⟩, ?_, .str _⟩
    unfold signsD
    rw [List.getElem?_map, Array.getElem?_toList, e1]
    rfl
theorem di_any {f : M D} (hK : R.K = X.K) (h : PE X e (tD R Wx f B W)) : PI X tg e (tDI R Wx (mIter anyOf f) B W) := PI.imp (pi_any h) fun σ H Q ⟨Γ, I, F, sa, g⟩ => by
  refine ⟨Γ, I, F, sa, (g.bind (W1 := W) (W2 := []) (fun i h => h) (fun i h => nomatch h)).imp fun d Γ1 I1 F1 H1 sa1 s1 g1 v rv => ?_⟩
  cases q : anyOf d with
  | none => rw [q] at g1; exact g1.elim
  | some ds =>
    rw [q] at g1
    unfold anyOf at q
    split at q
    · cases q
      obtain ⟨a, rfl⟩ : ∃ a, v = .ref a := by cases rv; exact ⟨_, rfl⟩
      obtain ⟨⟨xs, h1⟩, h2⟩ := walkL rv (ds := ds) rfl
      exact .inl ⟨a, xs, rfl, hK ▸ h1, hK ▸ g1.here sa1 _ h2⟩
    · cases q
      obtain ⟨a, rfl⟩ : ∃ a, v = .ref a := by cases rv; exact ⟨_, rfl⟩
      obtain ⟨⟨xs, h1⟩, h2⟩ := walkT rv
      exact .inr (.inl ⟨a, xs, rfl, hK ▸ h1, hK ▸ g1.here sa1 _ h2⟩)
    · cases q
      obtain ⟨a, rfl⟩ : ∃ a, v = .ref a := by cases rv; exact ⟨_, rfl⟩
      obtain ⟨⟨xs, h1⟩, h2⟩ := walkL rv rfl
      exact .inl ⟨a, xs, rfl, hK ▸ h1, hK ▸ g1.here sa1 _ h2⟩
    · cases q
      cases rv
      exact .inr (.inr ⟨_, rfl, g1.here sa1 _ (walkS _)⟩)
    · cases q
/-- pairs -/
def pairsD : List D → List D → List D
  | x :: xs, y :: ys => .tup [x, y] :: pairsD xs ys
  | _, _ => []
theorem pairs_len : ∀ (xs ys : List D), (pairsD xs ys).length = min xs.length ys.length
  | [], _ => by simp [pairsD]
  | _ :: _, [] => by simp [pairsD]
  | x :: xs, y :: ys => by
    rw [pairsD, List.length_cons, pairs_len xs ys, List.length_cons, List.length_cons]
    omega
theorem pairs_get : ∀ {xs ys : List D} {i : Nat} {x y : D}, xs[i]? = some x → ys[i]? = some y → (pairsD xs ys)[i]? = some (.tup [x, y])
  | [], _, _, _, _, h, _ => by simp at h
  | _ :: _, [], _, _, _, _, h => by simp at h
  | a :: xs, b :: ys, 0, x, y, h1, h2 => by
    simp at h1 h2
    subst h1; subst h2
    rfl
  | a :: xs, b :: ys, i + 1, x, y, h1, h2 => by
    rw [pairsD, List.getElem?_cons_succ]
    exact pairs_get (by simpa using h1) (by simpa using h2)
def enumD (n : Nat) : List D → List D
  | [] => []
  | x :: xs => .tup [.int (n : Nat), x] :: enumD (n + 1) xs
theorem enum_len : ∀ (n : Nat) (xs : List D), (enumD n xs).length = xs.length
  | _, [] => rfl
  | n, x :: xs => by rw [enumD, List.length_cons, List.length_cons, enum_len (n + 1) xs]
theorem enum_get : ∀ {xs : List D} {n i : Nat} {x : D}, xs[i]? = some x → (enumD n xs)[i]? = some (.tup [.int ((n + i : Nat) : Int), x])
  | [], _, _, _, h => by simp at h
  | a :: xs, n, 0, x, h => by
    simp at h
    subst h
    rfl
  | a :: xs, n, i + 1, x, h => by
    rw [enumD, List.getElem?_cons_succ, enum_get (n := n + 1) (i := i) (by simpa using h)]
    congr 4
    omega
theorem pair_new {I1 : Addr → Prop} {H1 H2 : Hp} {v x y : V} {dx dy : D} {T : Addr} (e1 : v = .ref T) (e2 : H1 T = none) (e3 : H2 = upd H1 T (.tup [x, y])) (r1 : Rep R I1 H1 x dx) (r2 : Rep R I1 H1 y dy) :
    Same H1 H2 ∧ Rep R I1 H2 v (.tup [dx, dy]) := by
  subst e1; subst e3
  have sm : Same H1 (upd H1 T (.tup [x, y])) := same_upd e2
  exact ⟨sm, .tup (.of upd_same) (.cons (r1.ext (.same sm) fun _ h => h) (.cons (r2.ext (.same sm) fun _ h => h) .nil))⟩
def zipD : List D → Option (List D)
  | [.lst xs, .lst ys] => some (pairsD xs ys)
  | [.tup xs, .tup ys] => some (pairsD xs ys)
  | _ => none
def mZip (f : M (List D)) : M (List D) := fun Γ => (f Γ).bind fun ds Γ1 => optO (zipD ds) Γ1
theorem walkZ {I0 : Addr → Prop} {H0 : Hp} {Jt : It} {G : Hp → Prop} {xs ys : List V} {dx dy : List D} (r1 : Reps R I0 H0 xs dx) (r2 : Reps R I0 H0 ys dy) (hG : ∀ H1, Ext I0 H0 H1 → G H1)
    (w : ∀ n, n = min xs.length ys.length → Walk Jt n G (YPair (fun i => xs[i]?) (fun i => ys[i]?))) : ItD R I0 H0 (pairsD dx dy) Jt := by
  refine ⟨G, _, w _ (by rw [pairs_len, r1.length, r2.length]), hG, fun I1 H1 x hi i v H2 hlt y => ?_⟩
  obtain ⟨T, x', y', e1, e2, e3, e4, e5⟩ := y
  obtain ⟨d1, f1, q1⟩ := r1.get' e4
  obtain ⟨d2, f2, q2⟩ := r2.get' e5
  obtain ⟨sm, q⟩ := pair_new e1 e2 e3 (q1.ext x hi) (q2.ext x hi)
  exact ⟨sm, _, pairs_get f1 f2, q⟩
theorem di_zip {f : M (List D)} {p tpos : Pos} {elts : List Expr} {kk : Nat} (hK : R.K = X.K) (hg : Gl X "zip") (hm : X.mg "zip" = none) (ha : PA X [a, b] (tDA R Wx f B W))
    (hs : starEach [a, b] X.env = (false, eval a X.env) :: starEach [b] X.env := by rfl) (hpl : (backTo pos (starEach [b] X.env)).any (·.1) = false := by rfl) :
    PI X (.Tuple elts kk tpos) (.Call (.Name "zip" p) [a, b] [] pos) (tDI R Wx (mZip f) B W) := PI.imp (RZ.pi_zipA hg hm ha hs hpl) fun σ H Q ⟨Γ, I, F, sa, g⟩ => by
  refine ⟨Γ, I, F, sa, (g.bind (W1 := W) (W2 := []) (fun i h => h) (fun i h => nomatch h)).imp fun ds Γ1 I1 F1 H1 sa1 s1 g1 vs rv => ?_⟩
  cases q : zipD ds with
  | none => rw [q] at g1; exact g1.elim
  | some l =>
    rw [q] at g1
    unfold zipD at q
    split at q
    · cases q
      obtain ⟨v, u, rfl, r1, r2⟩ := reps2 rv
      cases r1 with
      | lst h1 h1' r1 =>
      cases r2 with
      | lst h2 h2' r2 =>
      refine ⟨_, _, _, _, rfl, .inl ⟨.of h1', .of h2', g1.here sa1 _ (walkZ r1 r2 (fun H1 x => ⟨.of (x.i _ _ h1 h1'), .of (x.i _ _ h2 h2')⟩) fun n hn => walk_zip hn)⟩⟩
    · cases q
      obtain ⟨v, u, rfl, r1, r2⟩ := reps2 rv
      cases r1 with
      | @tup a1 xs _ h1 r1 =>
      cases r2 with
      | @tup a2 ys _ h2 r2 =>
      refine ⟨_, _, _, _, rfl, .inr ⟨hK ▸ h1, hK ▸ h2, g1.here sa1 _ (walkZ (G := fun H => SqT X.K H a1 xs ∧ SqT X.K H a2 ys) r1 r2 (fun H1 x => ⟨hK ▸ x.sqt h1, hK ▸ x.sqt h2⟩) fun n hn => ?_)⟩⟩
      subst hn
      refine ⟨fun i H hi w => ?_, fun H w => ⟨xs, ys, w.1, w.2, by omega⟩, fun i H v H' hi w y => ?_⟩
      · have l1 : i < xs.length := by omega
        have l2 : i < ys.length := by omega
        exact ⟨xs, ys, xs[i], ys[i], w.1, w.2, by simp [l1], by simp [l2]⟩
      · obtain ⟨T, x, z, e1, e2, e3, e4, e5⟩ := y
        exact ⟨T, x, z, e1, e2, e3, e4 xs w.1, e5 ys w.2⟩
    · cases q
def mEnum (f : M (List D)) : M (List D) := fun Γ => (f Γ).bind fun ds Γ1 => match ds with
  | [.lst l] => .ok (enumD 0 l) Γ1
  | _ => .bad
theorem di_enum {f : M (List D)} {p tpos : Pos} {elts : List Expr} {kk : Nat} (hK : R.K = X.K) (hg : Gl X "enumerate") (hm : X.mg "enumerate" = none) (ha : PA X [a] (tDA R Wx f B W)) (hs : starEach [a] X.env = [(false, eval a X.env)] := by rfl) :
    PI X (.Tuple elts kk tpos) (.Call (.Name "enumerate" p) [a] [] pos) (tDI R Wx (mEnum f) B W) := PI.imp (pi_enum hg hm ha hs) fun σ H Q ⟨Γ, I, F, sa, g⟩ => by
  refine ⟨Γ, I, F, sa, (g.bind (W1 := W) (W2 := []) (fun i h => h) (fun i h => nomatch h)).imp fun ds Γ1 I1 F1 H1 sa1 s1 g1 vs rv => ?_⟩
  split at g1
  · rename_i l
    obtain ⟨v, rfl, r⟩ := reps1 rv
    cases r with
    | @lst a1 xs _ h1 h1' r =>
    refine ⟨_, _, rfl, .of h1', g1.here sa1 _ ⟨fun H => SqL X.K H a1 xs, YPair (fun i => some (.int (i : Nat))) (fun i => xs[i]?), ?_, fun H1 x => .of (x.i _ _ h1 h1'), fun I1 H1 x hi i v H2 hlt y => ?_⟩⟩
    · rw [enum_len, ← r.length]
      exact walk_enum
    · obtain ⟨T, x', y', e1, e2, e3, e4, e5⟩ := y
      obtain ⟨d, f1, q1⟩ := r.get' e5
      obtain rfl : V.int (i : Nat) = x' := Option.some.inj e4
      obtain ⟨sm, q⟩ := pair_new e1 e2 e3 (.int (i : Nat)) (q1.ext x hi)
      refine ⟨sm, _, enum_get f1, ?_⟩
      rw [Nat.zero_add]
      exact q
  · exact g1.elim
/-! ### for -/
def loopS (g : AsT) (body : MS) : List D → MS
  | [], Γ => .next Γ
  | d :: ds, Γ => match g d Γ with
    | none => .bad
    | some Γ1 => match body Γ1 with
      | .next Γ2 => loopS g body ds Γ2
      | .cont Γ2 => loopS g body ds Γ2
      | .brk Γ2 => .next Γ2
      | o => o
def sFor (B : List Nat) (fi : M (List D)) (g : AsT) (body : MS) : MS := fun Γ => (fi Γ).thenS fun ds Γ1 => loopS g body ds (frz B Γ1)
theorem loop_go {I : Addr → Prop} {F : Fps} {Γ : Env} {σ : L2.St} {H : Hp} {E : Ends} {g : AsT} {f : MS} {d : D} {ds : List D} {v : V} {Nx : L2.St → Hp → Prop} (h : GoS R Wx P I F σ H (loopS g f (d :: ds) Γ) E) (sa : SA R I F Γ σ H) (r : Rep R I H v d) (hT : ∀ i ∈ T, i ∉ P)
    (hn : ∀ Γ2 I2 F2 σ2 H2, SA R I2 F2 Γ2 σ2 H2 → StpS P I F σ H I2 F2 σ2 H2 → GoS R Wx P I2 F2 σ2 H2 (loopS g f ds Γ2) E → Nx σ2 H2) :
    tDG R T g v σ H fun σ2 H2 => tDS R Wx P f { E with nx := Nx, ct := Nx, bk := E.nx } σ2 H2 := by
  refine ⟨Γ, I, F, d, sa, r, ?_⟩
  have h : GoS R Wx P I F σ H (match g d Γ with
    | none => .bad
    | some Γ1 => match f Γ1 with
      | .next Γ2 => loopS g f ds Γ2
      | .cont Γ2 => loopS g f ds Γ2
      | .brk Γ2 => .next Γ2
      | o => o) E := h
  cases e : g d Γ with
  | none => rw [e] at h; exact h
  | some Γ1 =>
    rw [e] at h
    intro F1 σ1 sa1 f1 b1 l1 n1
    have s1 : StpS P I F σ H I F1 σ1 H := .set (fun _ x => x) (fun _ x => .inl x) (fun i a x => ⟨i, f1 i a x⟩) fun i hi => n1 i fun hT' => hT i hT' hi
    refine ⟨Γ1, I, F1, sa1, ?_⟩
    cases e2 : f Γ1 with
    | next Γ2 =>
      have h : GoS R Wx P I F σ H (loopS g f ds Γ2) E := by simpa only [e2] using h
      exact fun I2 F2 σ2 H2 sa2 s2 => hn Γ2 I2 F2 σ2 H2 sa2 (s1.trans s2) (h.after (s1.trans s2))
    | cont Γ2 =>
      have h : GoS R Wx P I F σ H (loopS g f ds Γ2) E := by simpa only [e2] using h
      exact fun I2 F2 σ2 H2 sa2 s2 => hn Γ2 I2 F2 σ2 H2 sa2 (s1.trans s2) (h.after (s1.trans s2))
    | brk Γ2 =>
      have h : GoS R Wx P I F σ H (.next Γ2) E := by simpa only [e2] using h
      exact fun I2 F2 σ2 H2 sa2 s2 => h I2 F2 σ2 H2 sa2 (s1.trans s2)
    | ret d' Γ2 =>
      have h : GoS R Wx P I F σ H (.ret d' Γ2) E := by simpa only [e2] using h
      exact (h.after s1 : GoS R Wx P _ _ _ _ (.ret d' Γ2) E)
    | exc x Γ2 =>
      have h : GoS R Wx P I F σ H (.exc x Γ2) E := by simpa only [e2] using h
      exact fun I2 F2 σ2 H2 cls dx sa2 s2 r => h I2 F2 σ2 H2 cls dx sa2 (s1.trans s2) r
    | bad =>
      have h : GoS R Wx P I F σ H .bad E := by simpa only [e2] using h
      exact h
theorem ds_for {fi : M (List D)} {g : AsT} {f : MS} (hp : PassesOwn (model X.prog X.w) X.A X.env X.xe) (hc : X.calm = true) (hi : PI X tg iter (tDI R Wx fi B W)) (hg : PG X tg (tDG R T g)) (hb : PSs X body (tDS R Wx P f)) (hT : ∀ i ∈ T, i ∉ P := by decide)
    (hs : ∀ x, foldedSetIterable iter X.env x = pure x := by intro _; rfl) : PS X (.For tg iter body [] pos) (tDS R Wx P (sFor B fi g f)) := PS.imp (ps_for hp hc hi hg hb hs) fun E σ H ⟨Γ, I, F, sa, q⟩ =>
  ⟨Γ, I, F, sa, (q.expr W).imp fun ds Γ1 I1 F1 H1 sa1 s1 g1 Jt it => by
    obtain ⟨G, Y, w, wG, wY⟩ := it
    have sb := sa1.frz (B := B)
    have g2 := g1.after (σ1 := σ) (H1 := H1) (I1 := J I1 F1 B) (F1 := fun j a => j ∉ B ∧ F1 j a) (.set (fun _ x => .inl x) (fun a x => by
      rcases x with x | ⟨j, _, x⟩
      · exact .inl x
      · exact .inr ⟨j, x⟩) (fun j a x => ⟨j, x.2⟩) fun _ _ => rfl)
    refine for_it w (fun i σ H => ∃ Γ I F, SA R I F Γ σ H ∧ Ext (J I1 F1 B) H1 H ∧ (∀ a, J I1 F1 B a → I a) ∧ GoS R Wx P I F σ H (loopS g f (ds.drop i) Γ) E) ⟨_, _, _, sb, .refl, fun _ h => h, g2⟩ ?_ ?_ ?_
    · rintro i σ' H' _ ⟨Γ', I', F', sa', ex, hi', g'⟩
      exact wG H' ex
    · rintro i x σ' H' H'' hlt ⟨Γ', I', F', sa', ex, hi', g'⟩ y
      obtain ⟨sm, d, e1, r⟩ := wY I' H' ex hi' i x H'' hlt y
      have e2 : ds.drop i = d :: ds.drop (i + 1) := by
        obtain ⟨hl, e⟩ := List.getElem?_eq_some_iff.mp e1
        rw [← e, List.drop_eq_getElem_cons hl]
      rw [e2] at g'
      have st : StpS P I' F' σ' H' I' F' σ' H'' := (Stp.grow (W := []) sm (fun _ h => h) fun _ h => .inl h).toS
      refine loop_go (g'.after st) (sa'.same sm) r hT fun Γ2 I3 F3 σ3 H3 sa3 s3 g3 => ?_
      refine ⟨Γ2, I3, F3, sa3, ?_, fun a x => s3.imo a (hi' a x), g3⟩
      have ex2 := sa'.extS (st.trans s3)
      exact ⟨fun a o x e => ex2.i a o (hi' a x) (ex.i a o x e), fun a xs e => ex2.t a xs (ex.t a xs e), fun a o u e => ex2.f a o u (ex.f a o u e)⟩
    · rintro σ' H' ⟨Γ', I', F', sa', ex, hi', g'⟩
      rw [List.drop_length] at g'
      exact g' I' F' σ' H' sa' .refl⟩
/-! ### while, with so many turns at most -/
def whileS (c : M Bool) (body : MS) : Nat → MS
  | 0, _ => .bad
  | n + 1, Γ => (c Γ).thenS fun k Γ1 => if k = true then (match body Γ1 with
      | .next Γ2 => whileS c body n Γ2
      | .cont Γ2 => whileS c body n Γ2
      | .brk Γ2 => .next Γ2
      | o => o) else .next Γ1
def sWhile (n : Env → Nat) (c : M Bool) (body : MS) : MS := fun Γ => whileS c body (n Γ) Γ
theorem ds_while {n : Env → Nat} {fc : M Bool} {f : MS} (hp : PassesOwn (model X.prog X.w) X.A X.env X.xe) (hc : PT X c (tDT R Wx fc W)) (hb : PSs X body (tDS R Wx P f)) : PS X (.While c body [] pos) (tDS R Wx P (sWhile n fc f)) :=
  PS.imp (ps_while hp hc hb) fun E σ H ⟨Γ, I, F, sa, q⟩ => by
    refine ⟨fun m σ H => ∃ Γ I F, SA R I F Γ σ H ∧ GoS R Wx P I F σ H (whileS fc f m Γ) E, ⟨n Γ, Γ, I, F, sa, q⟩, ?_⟩
    rintro m σ' H' ⟨Γ', I', F', sa', g⟩
    cases m with
    | zero => exact g.elim
    | succ m =>
      refine ⟨Γ', I', F', sa', (GoS.expr (f := fun k Γ1 => if k = true then (match f Γ1 with
        | .next Γ2 => whileS fc f m Γ2
        | .cont Γ2 => whileS fc f m Γ2
        | .brk Γ2 => .next Γ2
        | o => o) else .next Γ1) g W).imp fun k Γ1 I1 F1 H1 sa1 s1 g1 => ?_⟩
      cases k with
      | false =>
        rw [if_neg Bool.false_ne_true] at g1
        have g2 : E.nx σ' H1 := g1 I1 F1 σ' H1 sa1 .refl
        exact g2
      | true =>
        rw [if_pos rfl] at g1
        show (∃ N : L2.St → Hp → Prop, (∀ σ'' H'', N σ'' H'' → ∃ m', m' < m + 1 ∧ ∃ Γ I F, SA R I F Γ σ'' H'' ∧ GoS R Wx P I F σ'' H'' (whileS fc f m' Γ) E) ∧ tDS R Wx P f { E with nx := N, ct := N, bk := E.nx } σ' H1)
        refine ⟨fun σ2 H2 => ∃ Γ I F, SA R I F Γ σ2 H2 ∧ GoS R Wx P I F σ2 H2 (whileS fc f m Γ) E, fun σ2 H2 h => ⟨m, Nat.lt_succ_self m, h⟩, Γ1, I1, F1, sa1, ?_⟩
        cases e2 : f Γ1 with
        | next Γ2 =>
          have h : GoS R Wx P I1 F1 σ' H1 (whileS fc f m Γ2) E := by simpa only [e2] using g1
          exact fun I2 F2 σ2 H2 sa2 s2 => ⟨Γ2, I2, F2, sa2, h.after s2⟩
        | cont Γ2 =>
          have h : GoS R Wx P I1 F1 σ' H1 (whileS fc f m Γ2) E := by simpa only [e2] using g1
          exact fun I2 F2 σ2 H2 sa2 s2 => ⟨Γ2, I2, F2, sa2, h.after s2⟩
        | brk Γ2 =>
          have h : GoS R Wx P I1 F1 σ' H1 (.next Γ2) E := by simpa only [e2] using g1
          exact h
        | ret d' Γ2 =>
          have h : GoS R Wx P I1 F1 σ' H1 (.ret d' Γ2) E := by simpa only [e2] using g1
          exact h
        | exc x Γ2 =>
          have h : GoS R Wx P I1 F1 σ' H1 (.exc x Γ2) E := by simpa only [e2] using g1
          exact h
        | bad =>
          have h : GoS R Wx P I1 F1 σ' H1 .bad E := by simpa only [e2] using g1
          exact h
end
end Dl
/-! DL8: list comprehensions. -/
namespace Dl
open PySem PySem.Spec PyProof.Rows L2
def wipeG {α : Type} (l : List (Option α)) : List Nat → List (Option α)
  | [] => l
  | v :: vs => (wipeG l vs).set v none
theorem wipe_eq (σ : L2.St) : ∀ vs : List Nat, wipe σ vs = wipeG σ vs
  | [] => rfl
  | v :: vs => by rw [wipe, wipeG, wipe_eq σ vs]
theorem wipeG_len {α : Type} (l : List (Option α)) : ∀ vs : List Nat, (wipeG l vs).length = l.length
  | [] => rfl
  | v :: vs => by rw [wipeG, List.length_set, wipeG_len l vs]
theorem wipeG_out {α : Type} {l : List (Option α)} {i : Nat} : ∀ {vs : List Nat}, i ∉ vs → (wipeG l vs)[i]? = l[i]?
  | [], _ => rfl
  | v :: vs, h => by
    simp only [List.mem_cons, not_or] at h
    rw [wipeG, List.getElem?_set_ne (Ne.symm h.1), wipeG_out h.2]
theorem wipeG_in {α : Type} {l : List (Option α)} {i : Nat} : ∀ {vs : List Nat}, i ∈ vs → (wipeG l vs)[i]? = none ∨ (wipeG l vs)[i]? = some none
  | [], h => by cases h
  | v :: vs, h => by
    rw [wipeG]
    by_cases e : v = i
    · subst e
      by_cases hl : v < (wipeG l vs).length
      · exact .inr (List.getElem?_set_self hl)
      · exact .inl (List.getElem?_eq_none (by rw [List.length_set]; omega))
    · rw [List.getElem?_set_ne e]
      rcases List.mem_cons.mp h with z | z
      · exact (e z.symm).elim
      · exact wipeG_in z
/-- the slots of vs as they were -/
def backG (Γ : Env) : List Nat → Env → Env
  | [], Γ3 => Γ3
  | v :: vs, Γ3 => (backG Γ vs Γ3).set v ((Γ[v]?).getD none)
theorem backG_len (Γ Γ3 : Env) : ∀ vs : List Nat, (backG Γ vs Γ3).length = Γ3.length
  | [] => rfl
  | v :: vs => by rw [backG, List.length_set, backG_len Γ Γ3 vs]
theorem backG_out {Γ Γ3 : Env} {i : Nat} : ∀ {vs : List Nat}, i ∉ vs → (backG Γ vs Γ3)[i]? = Γ3[i]?
  | [], _ => rfl
  | v :: vs, h => by
    simp only [List.mem_cons, not_or] at h
    rw [backG, List.getElem?_set_ne (Ne.symm h.1), backG_out h.2]
theorem backG_in {Γ Γ3 : Env} {i : Nat} (hl : Γ3.length = Γ.length) : ∀ {vs : List Nat}, i ∈ vs → (backG Γ vs Γ3)[i]? = Γ[i]?
  | [], h => by cases h
  | v :: vs, h => by
    rw [backG]
    by_cases e : v = i
    · subst e
      by_cases hv : v < Γ.length
      · rw [List.getElem?_set_self (by rw [backG_len, hl]; exact hv)]
        obtain ⟨d, e⟩ : ∃ d, Γ[v]? = some d := ⟨_, List.getElem?_eq_getElem hv⟩
        rw [e]; rfl
      · have h1 : Γ[v]? = none := List.getElem?_eq_none (by omega)
        rw [h1]
        exact List.getElem?_eq_none (by rw [List.length_set, backG_len, hl]; omega)
    · rw [List.getElem?_set_ne e]
      rcases List.mem_cons.mp h with z | z
      · exact (e z.symm).elim
      · exact backG_in hl z
def isOwn (Γ : Env) (i : Nat) : Bool := match Γ[i]? with
  | some (some (.own _)) => true
  | _ => false
def noOwn (vs : List Nat) (Γ : Env) : Bool := vs.all fun v => !isOwn Γ v
section
variable {R : RX} {I I' I1 : Addr → Prop} {F F' F1 : Fps} {Γ Γ3 : Env} {σ σ' σ3 : L2.St} {H H' H1 : Hp} {W B vs : List Nat}
theorem SA.noF (sa : SA R I F Γ σ H) {i : Nat} (h : isOwn Γ i = false) : ∀ a, ¬ F i a := by
  have k := sa.ok i
  unfold isOwn at h
  unfold SlotOk at k
  split at k
  · rename_i c e
    rw [e] at h
    cases h
  · exact k.2
  · exact k
theorem noOwn_at (h : noOwn vs Γ = true) {i : Nat} (hi : i ∈ vs) : isOwn Γ i = false := by
  have := List.all_eq_true.mp h i hi
  simpa using this
theorem SA.wipe (sa : SA R I F Γ σ H) (h : noOwn vs Γ = true) : SA R I F (wipeG Γ vs) (L2.wipe σ vs) H := by
  refine ⟨by rw [wipe_eq, wipeG_len, wipeG_len, sa.len], fun i => ?_, sa.dis, sa.apt, sa.itr, sa.trk⟩
  rw [wipe_eq]
  by_cases hi : i ∈ vs
  · have n := sa.noF (noOwn_at h hi)
    rcases wipeG_in (l := Γ) hi with e | e
    · rw [e]; exact n
    · rw [e]; exact n
  · rw [wipeG_out hi, wipeG_out hi]
    exact sa.ok i
/-- behind a turn: the slots of vs as they were -/
theorem SA.back (sa : SA R I F Γ σ H) (h : noOwn vs Γ = true) (s3 : SA R I' F' Γ3 σ3 H') (ex : Ext I H H') (hi : ∀ a, I a → I' a) (hl : σ3.length = σ.length) (ho : ∀ i, i ∉ vs → σ3[i]? = σ[i]?) :
    SA R I' (fun i a => i ∉ vs ∧ F' i a) (backG Γ vs Γ3) σ H' := by
  have l3 : Γ3.length = Γ.length := by rw [s3.len, hl, sa.len]
  refine ⟨by rw [backG_len, l3, sa.len], fun i => ?_, fun i j a x y => s3.dis i j a x.2 y.2, fun i a x => s3.apt i a x.2, s3.itr, fun i a x => s3.trk i a x.2⟩
  by_cases hv : i ∈ vs
  · rw [backG_in l3 hv]
    have k := sa.ok i
    have hown := noOwn_at h hv
    have n : ∀ a, ¬ (i ∉ vs ∧ F' i a) := fun a x => x.1 hv
    unfold SlotOk at k ⊢
    split at k
    · rename_i c e
      unfold isOwn at hown
      rw [e] at hown
      cases hown
    · obtain ⟨⟨v, e, r⟩, _⟩ := k
      exact ⟨⟨v, e, r.ext ex hi⟩, n⟩
    · exact n
  · rw [backG_out hv, ← ho i hv]
    exact (s3.ok i).iff fun a => ⟨fun x => ⟨hv, x⟩, fun x => x.2⟩
/-- an address that no slot tells of changes -/
theorem SA.aside (sa : SA R I F Γ σ H) {p : Addr} {xs ys : List V} (hp : H p = some (.lst xs)) (h1 : ¬ I p) (h2 : ∀ j, ¬ F j p) : SA R I F Γ σ (upd H p (.lst ys)) ∧ Ext I H (upd H p (.lst ys)) := by
  have ex : Ext I H (upd H p (.lst ys)) := by
    refine ⟨fun a o x e => ?_, fun a zs e => ?_, fun a o u e => ?_⟩
    · rw [upd_ne (show a ≠ p from fun z => h1 (z ▸ x))]; exact e
    · rw [upd_ne (show a ≠ p from fun z => by subst z; rw [hp] at e; cases e)]; exact e
    · rw [upd_ne (show a ≠ p from fun z => by subst z; rw [hp] at e; cases e)]; exact e
  have fs : ∀ j a o, F j a → H a = some o → upd H p (.lst ys) a = some o := fun j a o x e => by
    rw [upd_ne (show a ≠ p from fun z => h2 j (z ▸ x))]; exact e
  refine ⟨⟨sa.len, fun i => ?_, sa.dis, sa.apt, fun a x => ?_, fun i a x => ?_⟩, ex⟩
  · have k := sa.ok i
    unfold SlotOk at k ⊢
    split at k
    · obtain ⟨v, e, k⟩ := k
      exact ⟨v, e, k.ext ex (fun _ h => h) fun a o x => fs i a o x⟩
    · obtain ⟨⟨v, e, r⟩, n⟩ := k
      exact ⟨⟨v, e, r.ext ex fun _ h => h⟩, n⟩
    · exact k
  · obtain ⟨o, e⟩ := Option.ne_none_iff_exists'.mp (sa.itr a x)
    rw [ex.i a o x e]
    exact Option.some_ne_none o
  · obtain ⟨o, e, t⟩ := sa.trk i a x
    exact ⟨o, fs i a o x e, t⟩
end
def loopC (g : AsT) (vs : List Nat) (ft : M Bool) (fe : M D) : List D → M (List D)
  | [], Γ => .ok [] Γ
  | d :: ds, Γ => match g d (wipeG Γ vs) with
    | none => .bad
    | some Γ1 => match ft Γ1 with
      | .ok k Γ2 => if k = true then (match fe Γ2 with
          | .ok y Γ3 => (loopC g vs ft fe ds (backG Γ vs Γ3)).bind fun ys Γ4 => .ok (y :: ys) Γ4
          | _ => .bad) else loopC g vs ft fe ds (backG Γ vs Γ2)
      | _ => .bad
/-- content of a list comprehension -/
def mLcC (B : List Nat) (fi : M (List D)) (g : AsT) (vs : List Nat) (ft : M Bool) (fe : M D) : M (List D) := fun Γ => (fi Γ).bind fun ds Γ1 =>
  if noOwn vs (frz B Γ1) = true ∧ ds.length ≤ sizeLine then loopC g vs ft fe ds (frz B Γ1) else .bad
def mLc (B : List Nat) (fi : M (List D)) (g : AsT) (vs : List Nat) (ft : M Bool) (fe : M D) : M D := fun Γ => (mLcC B fi g vs ft fe Γ).bind fun ys Γ1 => .ok (.lst ys) Γ1
def mYes : M Bool := fun Γ => .ok true Γ
abbrev Wf : WX := fun _ _ _ _ => False
section
variable {X : Cx} {R : RX} {Wx : WX} {P W Wi Wt We B Bi Be T vs : List Nat} {a b c e tg iter elt : Expr} {ifs : List Expr} {pos : Pos}
theorem dts_nil : PTs X [] (tDT R Wf mYes []) := by
  refine ⟨fun pins s σ H Q I ⟨Γ, J, F, sa, g⟩ => ?_⟩
  exact pts_nil.run pins s σ H Q I (g.here sa)
theorem dts_one {f : M Bool} (h : PT X c (tDT R Wf f W)) : PTs X [c] (tDT R Wf f W) := pts_one h
/-- the core: the new list at D, what is wanted of it at the end -/
theorem lc_core {fi : M (List D)} {g : AsT} {ft : M Bool} {fe : M D} {σ : L2.St} {H : Hp} {Q : VK} {k : List D → Env → (Addr → Prop) → Fps → Hp → Prop}
    (hT : ∀ i ∈ T, i ∈ vs) (hW : ∀ i ∈ Wt ++ We, i ∉ vs) (hB : ∀ i ∈ Be, i ∉ Wt ++ We) (hBv : ∀ i ∈ Be, i ∉ vs)
    {Γ0 : Env} {I0 : Addr → Prop} {F0 : Fps} (sa0 : SA R I0 F0 Γ0 σ H) (h : Go R Wx (Wi ++ (Bi ++ (Wt ++ We))) I0 F0 σ H (mLcC Bi fi g vs ft fe Γ0) k)
    (fin : ∀ (ys : List D) (Γ : Env) (I1 : Addr → Prop) (F1 : Fps) (H1 : Hp) (I : Addr → Prop) (F : Fps) (H' : Hp) (D : Addr) (xs : List V) (Γ1 : Env), SA R I1 F1 Γ1 σ H1 → (∀ a, H1 a = none → H a = none) → Go R Wx (Bi ++ (Wt ++ We)) I1 F1 σ H1 (.ok ys Γ) k → H1 D = none → SA R I F Γ σ H' →
      Stp (Wt ++ We) (J I1 F1 Bi) (fun j a => j ∉ Bi ∧ F1 j a) H1 I F H' → H' D = some (.lst xs) → ¬ I D → (∀ j, ¬ F j D) → Reps R (J I F Be) H' xs ys → Q (.ref D) H') :
    tLc (tDI R Wx fi Bi Wi) (tDG R T g) (tDT R Wf ft Wt) (tD R Wf fe Be We) vs σ H Q := by
  refine ⟨Γ0, I0, F0, sa0, (h.bind (W1 := Wi) (W2 := Bi ++ (Wt ++ We)) (fun i h => List.mem_append_left _ h) (fun i h => List.mem_append_right _ h)).imp fun ds Γ1 I1 F1 H1 sa1 s1 g1 Jt it => ?_⟩
  intro D hD
  split at g1
  · rename_i hno
    obtain ⟨hno, hlen⟩ := hno
    obtain ⟨G, Y, w, wG, wY⟩ := it
    have sb := sa1.frz (B := Bi)
    have hset : StpS [] I1 F1 σ H1 (J I1 F1 Bi) (fun j a => j ∉ Bi ∧ F1 j a) σ H1 := .set (fun _ x => .inl x) (fun a x => by
      rcases x with x | ⟨j, _, x⟩
      · exact .inl x
      · exact .inr ⟨j, x⟩) (fun j a x => ⟨j, x.2⟩) fun _ _ => rfl
    have sm0 : Same H1 (upd H1 D (.lst [])) := same_upd hD
    have nI : ¬ J I1 F1 Bi D := fun x => sb.itr D x hD
    have nF : ∀ j, ¬ (j ∉ Bi ∧ F1 j D) := fun j x => by
      obtain ⟨o, e, _⟩ := sa1.trk j D x.2
      rw [hD] at e; cases e
    refine lc_it w (fun i H' => ∃ Γ' I' F' acc ys, SA R I' F' Γ' σ H' ∧ Stp (Wt ++ We) (J I1 F1 Bi) (fun j a => j ∉ Bi ∧ F1 j a) H1 I' F' H' ∧ H' D = some (.lst acc) ∧ ¬ I' D ∧ (∀ j, ¬ F' j D) ∧ Reps R (J I' F' Be) H' acc ys ∧ noOwn vs Γ' = true ∧
        acc.length ≤ i ∧ Go R Wx (Bi ++ (Wt ++ We)) I1 F1 σ H1 ((loopC g vs ft fe (ds.drop i) Γ').bind fun zs Γ'' => .ok (ys ++ zs) Γ'') k) ?_ ?_ ?_ ?_
    · refine ⟨frz Bi Γ1, J I1 F1 Bi, _, [], [], sb.same sm0, Stp.grow sm0 (fun _ h => h) fun _ h => .inl h, upd_same, nI, nF, .nil, hno, Nat.le_refl _, ?_⟩
      have e : ((loopC g vs ft fe (ds.drop 0) (frz Bi Γ1)).bind fun zs Γ'' => Out.ok ([] ++ zs) Γ'') = loopC g vs ft fe ds (frz Bi Γ1) := by
        rw [List.drop_zero]
        cases loopC g vs ft fe ds (frz Bi Γ1) <;> rfl
      rw [e]
      exact g1
    · rintro i H' _ ⟨Γ', I', F', acc, ys, sa', st, hd, n1, n2, rs, no, le, g'⟩
      exact wG H' (by
        have ex := sb.ext (B := []) st (fun i h => nomatch h)
        exact ⟨fun a o x e => ex.i a o (.inl x) e, ex.t, ex.f⟩)
    · rintro i x H' H'' hlt ⟨Γ', I', F', acc, ys, sa', st, hd, n1, n2, rs, no, le, g'⟩ y
      have ex0 := sb.ext (B := []) st (fun i h => nomatch h)
      obtain ⟨sm, d, e1, r⟩ := wY I' H' ⟨fun a o x e => ex0.i a o (.inl x) e, ex0.t, ex0.f⟩ (fun a x => st.imo a x) i x H'' hlt y
      have e2 : ds.drop i = d :: ds.drop (i + 1) := by
        obtain ⟨hl, e⟩ := List.getElem?_eq_some_iff.mp e1
        rw [← e, List.drop_eq_getElem_cons hl]
      rw [e2] at g'
      have sa2 := sa'.same sm
      refine ⟨wipeG Γ' vs, I', F', d, sa2.wipe no, r, ?_⟩
      have g' : Go R Wx (Bi ++ (Wt ++ We)) I1 F1 σ H1 ((match g d (wipeG Γ' vs) with
          | none => Out.bad
          | some Γ1 => match ft Γ1 with
            | .ok k Γ2 => if k = true then (match fe Γ2 with
                | .ok y Γ3 => (loopC g vs ft fe (ds.drop (i + 1)) (backG Γ' vs Γ3)).bind fun ys Γ4 => .ok (y :: ys) Γ4
                | _ => .bad) else loopC g vs ft fe (ds.drop (i + 1)) (backG Γ' vs Γ2)
            | _ => .bad).bind fun zs Γ'' => .ok (ys ++ zs) Γ'') k := g'
      cases ea : g d (wipeG Γ' vs) with
      | none => rw [ea] at g'; exact g'.elim
      | some Γa =>
        rw [ea] at g'
        intro Fa σa saa fa ba la na
        -- the slots outside vs
        have oa : ∀ i, i ∉ vs → σa[i]? = σ[i]? := fun i hi => by
          rw [na i fun z => hi (hT i z), wipe_eq, wipeG_out hi]
        have la' : σa.length = σ.length := by rw [la, wipe_eq, wipeG_len]
        refine ⟨?_, ?_⟩
        · rw [wipe_eq, wipe_eq]
          refine List.ext_getElem? fun j => ?_
          by_cases hj : j ∈ vs
          · have key : ∀ l l' : L2.St, l.length = l'.length → (wipeG l vs)[j]? = (wipeG l' vs)[j]? := fun l l' e => by
              by_cases hl : j < l.length
              · have a1 : (wipeG l vs)[j]? = some none := by
                  rcases wipeG_in (l := l) hj with z | z
                  · rw [List.getElem?_eq_none_iff, wipeG_len] at z; omega
                  · exact z
                have a2 : (wipeG l' vs)[j]? = some none := by
                  rcases wipeG_in (l := l') hj with z | z
                  · rw [List.getElem?_eq_none_iff, wipeG_len] at z; omega
                  · exact z
                rw [a1, a2]
              · rw [List.getElem?_eq_none (by rw [wipeG_len]; omega), List.getElem?_eq_none (by rw [wipeG_len]; omega)]
            exact key σa σ la'
          · rw [wipeG_out hj, wipeG_out hj, oa j hj]
        have sat : Stp (Wt ++ We) I' F' H'' I' Fa H'' := ⟨fun _ _ h _ => h, fun j hj a x => by
            by_cases hv : j ∈ vs
            · exact (sa2.noF (noOwn_at no hv) a x).elim
            · exact ba j (fun z => hv (hT j z)) a x, fun j a x => .inr (.inl (fa j a x)), fun _ h => .inl h, fun _ h => h, fun _ h => h⟩
        refine ⟨Γa, I', Fa, saa, ?_⟩
        have nFa : ∀ j, ¬ Fa j D := fun j x => n2 j (fa j D x)
        have hd2 : H'' D = some (.lst acc) := sm _ _ hd
        -- what a step keeps of the new list
        have keepD : ∀ {W' : List Nat} {I2 I3 : Addr → Prop} {F2 F3 : Fps} {H2 H3 : Hp}, Stp W' I2 F2 H2 I3 F3 H3 → H2 D = some (.lst acc) → ¬ I2 D → (∀ j, ¬ F2 j D) → H3 D = some (.lst acc) ∧ ¬ I3 D ∧ ∀ j, ¬ F3 j D := by
          intro W' I2 I3 F2 F3 H2 H3 s e m1 m2
          refine ⟨s.keep D _ e fun j _ => m2 j, fun x => ?_, fun j x => ?_⟩
          · rcases s.ifr D x with z | ⟨j, _, z⟩ | z
            · exact m1 z
            · exact m2 j z
            · rw [e] at z; cases z
          · rcases s.fre j D x with ⟨l, _, z⟩ | z | z
            · exact m2 l z
            · exact m2 j z
            · rw [e] at z; cases z
        have noB : ∀ (Γ3 : Env), noOwn vs (backG Γ' vs Γ3) = true ∨ Γ3.length ≠ Γ'.length := fun Γ3 => by
          by_cases hl : Γ3.length = Γ'.length
          · refine .inl (List.all_eq_true.mpr fun j hj => ?_)
            have hj' := noOwn_at no hj
            unfold isOwn at hj' ⊢
            rw [backG_in hl hj, hj']
            rfl
          · exact .inr hl
        -- the state behind a turn
        have again : ∀ {I3 : Addr → Prop} {F3 : Fps} {Γ3 : Env} {H3 : Hp} (acc' : List V) (ys' : List Dl.D), SA R I3 F3 Γ3 σa H3 → Stp (Wt ++ We) I' Fa H'' I3 F3 H3 → H3 D = some (.lst acc) → Reps R (J I3 (fun i a => i ∉ vs ∧ F3 i a) Be) H3 acc' ys' → acc'.length ≤ i + 1 →
            Go R Wx (Bi ++ (Wt ++ We)) I1 F1 σ H1 ((loopC g vs ft fe (ds.drop (i + 1)) (backG Γ' vs Γ3)).bind fun zs Γ'' => .ok (ys' ++ zs) Γ'') k → ∀ H4, H4 = upd H3 D (.lst acc') →
            ∃ Γ' I' F' acc ys, SA R I' F' Γ' σ H4 ∧ Stp (Wt ++ We) (J I1 F1 Bi) (fun j a => j ∉ Bi ∧ F1 j a) H1 I' F' H4 ∧ H4 D = some (.lst acc) ∧ ¬ I' D ∧ (∀ j, ¬ F' j D) ∧ Reps R (J I' F' Be) H4 acc ys ∧ noOwn vs Γ' = true ∧
              acc.length ≤ i + 1 ∧ Go R Wx (Bi ++ (Wt ++ We)) I1 F1 σ H1 ((loopC g vs ft fe (ds.drop (i + 1)) Γ').bind fun zs Γ'' => .ok (ys ++ zs) Γ'') k := by
          intro I3 F3 Γ3 H3 acc' ys' sa3 s3 e3 r3 l3 g3 H4 eH
          subst eH
          obtain ⟨_, m1, m2⟩ := keepD s3 hd2 n1 nFa
          have s03 : Stp (Wt ++ We) I' F' H' I3 F3 H3 := ((Stp.grow (W := Wt ++ We) sm (fun _ h => h) fun _ h => .inl h).trans sat (fun _ h => h) fun _ h => h).trans s3 (fun _ h => h) fun _ h => h
          have exB := sa'.ext (B := []) s03 (fun i h => nomatch h)
          have ex : Ext I' H' H3 := ⟨fun a o x e => exB.i a o (.inl x) e, exB.t, exB.f⟩
          have sb3 := sa'.back no sa3 ex (fun a x => s03.imo a x) la' oa
          have m2' : ∀ j, ¬ (j ∉ vs ∧ F3 j D) := fun j x => m2 j x.2
          obtain ⟨sb4, ex4⟩ := sb3.aside (ys := acc') e3 m1 m2'
          have hl3 : Γ3.length = Γ'.length := by rw [sa3.len, la', sa'.len]
          have keepF : ∀ j, j ∉ Wt ++ We → ∀ a, F' j a → j ∉ vs ∧ F3 j a := fun j hj a x => by
            have hv : j ∉ vs := fun hv => sa'.noF (noOwn_at no hv) a x
            exact ⟨hv, s03.same j hj a x⟩
          have tot : Stp (Wt ++ We) (J I1 F1 Bi) (fun j a => j ∉ Bi ∧ F1 j a) H1 I3 F3 H3 := st.trans s03 (fun _ h => h) fun _ h => h
          refine ⟨_, I3, _, acc', ys', sb4, ⟨fun a o e n => ?_, fun j hj a x => ?_, fun j a x => tot.fre j a x.2, tot.ifr, tot.imo, fun a x => ?_⟩, upd_same, m1, m2', ?_, ?_, l3, g3⟩
          · have ne : a ≠ D := fun z => by
              subst z
              rw [hD] at e; cases e
            rw [upd_ne ne]
            exact tot.keep a o e n
          · refine ⟨fun hv => ?_, tot.same j hj a x⟩
            exact (fun z => sa'.noF (noOwn_at no hv) a z) (st.same j hj a x)
          · by_cases ne : a = D
            · subst ne; exact hD
            · rw [upd_ne ne] at x
              exact tot.dom a x
          · refine r3.ext ⟨fun a o x e => ?_, ex4.t, ex4.f⟩ fun _ h => h
            rcases x with x | ⟨j, _, x⟩
            · exact ex4.i a o x e
            · rw [upd_ne (show a ≠ D from fun z => m2' j (z ▸ x))]; exact e
          · rcases noB Γ3 with z | z
            · exact z
            · exact (z hl3).elim
        have baseReps : ∀ {I3 : Addr → Prop} {F3 : Fps} {H3 : Hp}, Stp (Wt ++ We) I' Fa H'' I3 F3 H3 → Reps R (J I3 (fun i a => i ∉ vs ∧ F3 i a) Be) H3 acc ys := by
          intro I3 F3 H3 s3
          have s03 : Stp (Wt ++ We) I' F' H' I3 F3 H3 := ((Stp.grow (W := Wt ++ We) sm (fun _ h => h) fun _ h => .inl h).trans sat (fun _ h => h) fun _ h => h).trans s3 (fun _ h => h) fun _ h => h
          refine rs.ext (sa'.ext s03 hB) fun a x => ?_
          rcases x with x | ⟨j, hj, x⟩
          · exact .inl (s03.imo a x)
          · exact .inr ⟨j, hj, fun hv => sa'.noF (noOwn_at no hv) a x, s03.same j (hB j hj) a x⟩
        cases et : ft Γa with
        | bad => simp only [et] at g'; exact g'.elim
        | exc x Γb => simp only [et] at g'; exact g'.elim
        | ok kt Γb =>
          simp only [et] at g'
          intro I3 F3 H3 sa3 s3
          have s3' : Stp (Wt ++ We) I' Fa H'' I3 F3 H3 := s3.mono fun j h => List.mem_append_left _ h
          obtain ⟨d3, m1, m2⟩ := keepD s3 hd2 n1 nFa
          cases kt with
          | false =>
            rw [if_neg Bool.false_ne_true] at g'
            have e4 : H3 = upd H3 D (.lst acc) := (funext fun a => by
              by_cases z : a = D
              · subst z; rw [upd_same, d3]
              · rw [upd_ne z])
            have q := again acc ys sa3 s3' d3 (baseReps s3') (by omega) g' H3 e4
            exact q
          | true =>
            rw [if_pos rfl] at g'
            have goal : tD R Wf fe Be We σa H3 (fun y H4 => ∃ acc, H4 D = some (.lst acc) ∧ acc.length < sizeLine ∧ ∃ Γ' I' F' acc' ys, SA R I' F' Γ' σ (upd H4 D (.lst (acc ++ [y]))) ∧ Stp (Wt ++ We) (J I1 F1 Bi) (fun j a => j ∉ Bi ∧ F1 j a) H1 I' F' (upd H4 D (.lst (acc ++ [y]))) ∧
                (upd H4 D (.lst (acc ++ [y]))) D = some (.lst acc') ∧ ¬ I' D ∧ (∀ j, ¬ F' j D) ∧ Reps R (J I' F' Be) (upd H4 D (.lst (acc ++ [y]))) acc' ys ∧ noOwn vs Γ' = true ∧
                acc'.length ≤ i + 1 ∧ Go R Wx (Bi ++ (Wt ++ We)) I1 F1 σ H1 ((loopC g vs ft fe (ds.drop (i + 1)) Γ').bind fun zs Γ'' => .ok (ys ++ zs) Γ'') k) := by
              refine ⟨Γb, I3, F3, sa3, ?_⟩
              cases ee : fe Γb with
              | bad => simp only [ee] at g'; exact g'.elim
              | exc x Γc => simp only [ee] at g'; exact g'.elim
              | ok y Γc =>
                simp only [ee] at g'
                intro I4 F4 H4 sa4 s4 v rv
                obtain ⟨d4, p1, p2⟩ := keepD s4 d3 m1 m2
                have s4' : Stp (Wt ++ We) I' Fa H'' I4 F4 H4 := s3.trans s4 (fun j h => List.mem_append_left _ h) fun j h => List.mem_append_right _ h
                refine ⟨acc, d4, by omega, ?_⟩
                have rv' : Rep R (J I4 (fun i a => i ∉ vs ∧ F4 i a) Be) H4 v y := by
                  refine rv.reg fun a x => ?_
                  rcases x with x | ⟨j, hj, x⟩
                  · exact .inl x
                  · exact .inr ⟨j, hj, hBv j hj, x⟩
                refine again (acc ++ [v]) (ys ++ [y]) sa4 s4' d4 ((baseReps s4').append (.cons rv' .nil)) (by rw [List.length_append, List.length_singleton]; omega) ?_ _ rfl
                have eq : (((loopC g vs ft fe (ds.drop (i + 1)) (backG Γ' vs Γc)).bind fun ys Γ4 => Out.ok (y :: ys) Γ4).bind fun zs Γ'' => Out.ok (ys ++ zs) Γ'') =
                    (loopC g vs ft fe (ds.drop (i + 1)) (backG Γ' vs Γc)).bind fun zs Γ'' => Out.ok (ys ++ [y] ++ zs) Γ'' := by
                  cases loopC g vs ft fe (ds.drop (i + 1)) (backG Γ' vs Γc) with
                  | ok zs Γ4 => simp
                  | exc x Γ4 => rfl
                  | bad => rfl
                rw [← eq]
                exact g'
            exact goal
    · rintro H' ⟨Γ', I', F', acc, ys, sa', st, hd, n1, n2, rs, no, le, g'⟩
      rw [List.drop_length] at g'
      have g' : Go R Wx (Bi ++ (Wt ++ We)) I1 F1 σ H1 (.ok (ys ++ []) Γ') k := g'
      rw [List.append_nil] at g'
      exact fin ys Γ' I1 F1 H1 I' F' H' D acc Γ1 sa1 s1.dom g' hD sa' st hd n1 n2 rs
  · exact g1.elim
end
end Dl
/-! DL9: values that may be a new container of one's own; methods of own lists; classes of values. -/
namespace Dl
open PySem PySem.Spec PyProof.Rows L2
/-! ### values, or new containers -/
/-- v stands for d; an own container is new since H (or was of W's) -/
def XR (R : RX) (B W : List Nat) (F : Fps) (H : Hp) (I' : Addr → Prop) (F' : Fps) (H' : Hp) (v : V) (d : D) : Prop := match d with
  | .own c => ∃ Fo, ORep R (J I' F' B) H' v c Fo ∧ ∀ a, Fo a → Own1 I' F' H' a ∧ ((∃ j ∈ W, F j a) ∨ H a = none)
  | d => Rep R (J I' F' B) H' v d
def kX (R : RX) (B W : List Nat) (F : Fps) (H : Hp) (Q : VK) : D → Env → (Addr → Prop) → Fps → Hp → Prop := fun d _ I' F' H' => ∀ v, XR R B W F H I' F' H' v d → Q v H'
def tDX (R : RX) (Wx : WX) (f : M D) (B W : List Nat) : TE := fun σ H Q => ∃ Γ I F, SA R I F Γ σ H ∧ Go R Wx W I F σ H (f Γ) (kX R B W F H Q)
theorem XR.of {R : RX} {B W : List Nat} {F : Fps} {H : Hp} {I' : Addr → Prop} {F' : Fps} {H' : Hp} {v : V} {d : D} (h : Rep R (J I' F' B) H' v d) : XR R B W F H I' F' H' v d := by
  unfold XR
  split
  · exact h.notOwn.elim
  · exact h
def strip : D → D
  | .own c => c
  | d => d
def mStrip (f : M D) : M D := fun Γ => (f Γ).bind fun d Γ1 => .ok (strip d) Γ1
section
variable {X : Cx} {R : RX} {Wx : WX} {P W Wa Wb We Wi Wt B Ba Bb Be Bi T vs : List Nat} {a b c e tg iter elt : Expr} {es ifs : List Expr} {pos : Pos} {st : Stmt} {sts : List Stmt} {I I' I1 : Addr → Prop} {F F' F1 : Fps} {Γ Γ1 : Env} {σ σ' : L2.St} {H H' H1 : Hp} {E : Ends}
theorem dx_of {f : M D} (h : PE X e (tD R Wx f B W)) : PE X e (tDX R Wx f B W) := PE.imp h fun σ H Q ⟨Γ, I, F, sa, g⟩ =>
  ⟨Γ, I, F, sa, g.imp fun d Γ1 I1 F1 H1 sa1 s1 q v r => q v (.of r)⟩
/-- the footprint goes into the region -/
theorem own_in {Fo : Addr → Prop} (sa : SA R I1 F1 Γ σ H1) (s : Stp W I F H I1 F1 H1) (h : ∀ a, Fo a → Own1 I1 F1 H1 a ∧ ((∃ j ∈ W, F j a) ∨ H a = none)) :
    SA R (fun a => I1 a ∨ Fo a) F1 Γ σ H1 ∧ Stp W I F H (fun a => I1 a ∨ Fo a) F1 H1 := by
  have hi : ∀ a, I1 a → I1 a ∨ Fo a := fun _ x => .inl x
  refine ⟨⟨sa.len, fun i => (sa.ok i).reg hi, sa.dis, fun i a x y => ?_, fun a x => ?_, sa.trk⟩, ⟨s.keep, s.same, s.fre, fun a x => ?_, fun a x => .inl (s.imo a x), s.dom⟩⟩
  · rcases y with y | y
    · exact sa.apt i a x y
    · exact (h a y).1.2.1 i x
  · rcases x with x | x
    · exact sa.itr a x
    · obtain ⟨_, _, o, e, _⟩ := (h a x).1
      rw [e]
      exact Option.some_ne_none o
  · rcases x with x | x
    · exact s.ifr a x
    · exact .inr (h a x).2
theorem de_strip {f : M D} (h : PE X e (tDX R Wx f B W)) : PE X e (tD R Wx (mStrip f) B W) := PE.imp h fun σ H Q ⟨Γ, I, F, sa, g⟩ => by
  refine ⟨Γ, I, F, sa, ?_⟩
  unfold mStrip at g
  cases e1 : f Γ with
  | bad => rw [e1] at g; exact g
  | exc x Γ1 => rw [e1] at g; exact g
  | ok d Γ1 =>
    rw [e1] at g
    intro I1 F1 H1 sa1 s1 v xr
    by_cases hd : ∃ c, d = .own c
    · obtain ⟨c, rfl⟩ := hd
      obtain ⟨Fo, r, h2⟩ := xr
      obtain ⟨sa2, s2⟩ := own_in sa1 s1 h2
      refine g _ _ _ sa2 s2 v (r.rep (fun a x => ?_) fun a x => .inl (.inr x))
      rcases x with x | x
      · exact .inl (.inl x)
      · exact .inr x
    · have e2 : strip d = d := by
        cases d <;> first | rfl | exact (hd ⟨_, rfl⟩).elim
      have xr : Rep R (J I1 F1 B) H1 v d := by
        cases d <;> first | exact xr | exact (hd ⟨_, rfl⟩).elim
      refine g _ _ _ sa1 s1 v ?_
      rw [e2]
      exact xr
/-- behind a value that borrows from B -/
def settleX (d : D) (B : List Nat) (Γ : Env) : Env := match d with
  | .own c => settle1 c B Γ
  | d => settle d B Γ
@[simp] theorem settleX_nil (d : D) (Γ : Env) : settleX d [] Γ = Γ := by
  unfold settleX
  split <;> simp
theorem ORep.free {v : V} {c : D} {Fo : Addr → Prop} (h : ORep R I H v c Fo) (f : free1 c = true) : ORep R I' H v c Fo := by
  unfold ORep at h ⊢
  split at h
  · obtain ⟨p, xs, h1, h2, h3, h4⟩ := h
    exact ⟨p, xs, h1, h2, h3.free f, h4⟩
  · obtain ⟨p, xs, h1, h2, h3, h4⟩ := h
    exact ⟨p, xs, h1, h2, h3.free f, h4⟩
  · exact h
/-- where B's things are the region's (or nothing of them is needed) -/
theorem XR.settled {d : D} {v : V} (xr : XR R B W F H I1 F1 H1 v d) (sa : SA R I1 F1 Γ1 σ H1) (s : StpS P I F σ H I1 F1 σ H1) : ∃ I2 F2, SA R I2 F2 (settleX d B Γ1) σ H1 ∧ StpS P I F σ H I2 F2 σ H1 ∧ RRep R F H I2 F2 H1 v d := by
  have sb := sa.frz (B := B)
  have s2 : StpS P I F σ H (J I1 F1 B) (fun j a => j ∉ B ∧ F1 j a) σ H1 := s.trans (.set (fun _ x => .inl x) (fun a x => by
    rcases x with x | ⟨j, _, x⟩
    · exact .inl x
    · exact .inr ⟨j, x⟩) (fun j a x => ⟨j, x.2⟩) fun _ _ => rfl)
  by_cases hd : ∃ c, d = .own c
  · obtain ⟨c, rfl⟩ := hd
    obtain ⟨Fo, r, h2⟩ := xr
    have wk : ∀ a, ((∃ j ∈ W, F j a) ∨ H a = none) → (∃ j, F j a) ∨ H a = none := fun a x => by
      rcases x with ⟨j, _, x⟩ | x
      · exact .inl ⟨j, x⟩
      · exact .inr x
    show ∃ I2 F2, SA R I2 F2 (settle1 c B Γ1) σ H1 ∧ _
    unfold settle1
    split
    · rename_i hf
      exact ⟨I1, F1, sa, s, Fo, r.free hf, fun a x => ⟨(h2 a x).1, wk a (h2 a x).2⟩⟩
    · refine ⟨_, _, sb, s2, Fo, r, fun a x => ⟨⟨fun y => ?_, fun j y => (h2 a x).1.2.1 j y.2, (h2 a x).1.2.2⟩, wk a (h2 a x).2⟩⟩
      rcases y with y | ⟨j, _, y⟩
      · exact (h2 a x).1.1 y
      · exact (h2 a x).1.2.1 j y
  · have xr : Rep R (J I1 F1 B) H1 v d := by
      cases d <;> first | exact xr | exact (hd ⟨_, rfl⟩).elim
    have e2 : settleX d B Γ1 = settle d B Γ1 := by
      cases d <;> first | rfl | exact (hd ⟨_, rfl⟩).elim
    rw [e2]
    unfold settle
    split
    · rename_i hf
      exact ⟨I1, F1, sa, s, .of (xr.free hf)⟩
    · exact ⟨_, _, sb, s2, .of xr⟩
def sRetX (B : List Nat) (f : M D) : MS := fun Γ => (f Γ).thenS fun d Γ1 => .ret d (settleX d B Γ1)
theorem ds_retX {f : M D} (he : PE X e (tDX R Wx f B W)) : PS X (.Return (some e) pos) (tDS R Wx P (sRetX B f)) := PS.imp (ps_ret he) fun E σ H ⟨Γ, I, F, sa, g⟩ => by
  refine ⟨Γ, I, F, sa, ?_⟩
  unfold sRetX at g
  cases e1 : f Γ with
  | bad => rw [e1] at g; exact g
  | exc x Γ1 =>
    rw [e1] at g
    exact fun I' F' H' cls dx sa s r => g I' F' σ H' cls dx sa s.toS r
  | ok d Γ1 =>
    rw [e1] at g
    intro I1 F1 H1 sa1 s1 v xr
    obtain ⟨I2, F2, sa2, s2, r2⟩ := xr.settled (P := P) sa1 s1.toS
    exact g I2 F2 σ H1 v sa2 s2 r2
/-- a name that is given back: its container goes along -/
def sRetO (i : Nat) : MS := fun Γ => match Γ[i]? with
  | some (some (.own c)) => .ret (.own c) (Γ.set i none)
  | some (some d) => .ret d Γ
  | _ => .bad
theorem SA.drop (sa : SA R I F Γ σ H) (i : Nat) : SA R I (fun j a => j ≠ i ∧ F j a) (Γ.set i none) σ H := by
  refine ⟨by rw [List.length_set]; exact sa.len, fun j => ?_, fun j k a x y => sa.dis j k a x.2 y.2, fun j a x => sa.apt j a x.2, sa.itr, fun j a x => sa.trk j a x.2⟩
  by_cases hj : j = i
  · subst hj
    have no : ∀ a, ¬ (j ≠ j ∧ F j a) := fun a x => x.1 rfl
    by_cases hl : j < Γ.length
    · rw [List.getElem?_set_self hl]
      exact no
    · rw [List.getElem?_eq_none (by rw [List.length_set]; omega)]
      exact no
  · rw [List.getElem?_set_ne (Ne.symm hj)]
    exact (sa.ok j).iff fun a => ⟨fun x => ⟨hj, x⟩, fun x => x.2⟩
theorem ds_retO {i : Nat} (h : PE X e (tVar i)) : PS X (.Return (some e) pos) (tDS R Wx P (sRetO i)) := PS.imp (ps_ret h) fun E σ H ⟨Γ, I, F, sa, g⟩ => by
  have k := sa.ok i
  unfold sRetO at g
  unfold SlotOk at k
  split at g
  · rename_i c e1
    rw [e1] at k
    obtain ⟨v, ev, k⟩ := k
    refine ⟨v, ev, g I _ σ H v (sa.drop i) (.set (fun _ x => x) (fun _ x => .inl x) (fun j a x => ⟨j, x.2⟩) fun _ _ => rfl) ⟨F i, k, fun a x => ⟨⟨sa.apt i a x, fun j y => y.1 (sa.dis j i a y.2 x), sa.trk i a x⟩, .inl ⟨i, x⟩⟩⟩⟩
  · rename_i d e1 e2
    rw [e2] at k
    split at k
    · rename_i c e3
      cases e3
      exact (e1 _ rfl).elim
    · rename_i d3 e3 e4
      cases e4
      obtain ⟨⟨v, ev, k⟩, _⟩ := k
      exact ⟨v, ev, g I F σ H v sa .refl (.of k)⟩
    · rename_i n1 n2
      exact (n2 _ rfl).elim
  · exact g.elim
/-- name = value or new container -/
def sSetX (i : Nat) (B : List Nat) (f : M D) : MS := fun Γ => (f Γ).thenS fun d Γ1 => if i < Γ1.length then .next ((settleX d B Γ1).set i (some d)) else .bad
theorem GoS.setX {i : Nat} {d : D} {v : V} (h : GoS R Wx P I F σ H (.next ((settleX d B Γ1).set i (some d))) E) (sa : SA R I1 F1 Γ1 σ H1) (s : Stp W I F H I1 F1 H1) (xr : XR R B W F H I1 F1 H1 v d) (hi : i < Γ1.length) (hp : i ∉ P) : E.nx (σ.set i (some v)) H1 := by
  obtain ⟨I2, F2, sa2, s2, r2⟩ := xr.settled (P := P) sa s.toS
  have pins : ∀ j ∈ P, (σ.set i (some v))[j]? = σ[j]? := fun j hj => List.getElem?_set_ne fun (e : i = j) => hp (by rw [e]; exact hj)
  have hl : i < (settleX d B Γ1).length := by rw [sa2.len, ← sa.len]; exact hi
  by_cases hd : ∃ c, d = .own c
  · obtain ⟨c, rfl⟩ := hd
    obtain ⟨Fo, r, h2⟩ := r2
    refine h _ _ _ H1 (sa2.setO hl r (fun a x => (h2 a x).1.1) (fun j a x y => (h2 a y).1.2.1 j x) fun a x => (h2 a x).1.2.2) ⟨s2.keep, fun j a x => ?_, s2.ifr, s2.imo, s2.dom, fun j hj => pins j hj⟩
    rcases x with x | x
    · exact s2.fre j a x.2
    · exact (h2 a x.2).2
  · have r2 : Rep R I2 H1 v d := by
      cases d <;> first | exact r2 | exact (hd ⟨_, rfl⟩).elim
    exact h _ _ _ H1 (sa2.set hl r2) (s2.trans (.set (fun _ x => x) (fun _ x => .inl x) (fun j a x => ⟨j, x.2⟩) pins))
theorem setX_core {i : Nat} {f : M D} {σ : L2.St} {H : Hp} {E : Ends} (hp : i ∉ P) (h : tDS R Wx P (sSetX i B f) E σ H) : tDX R Wx f B W σ H fun v H1 => E.nx (σ.set i (some v)) H1 := by
  obtain ⟨Γ, I, F, sa, g⟩ := h
  refine ⟨Γ, I, F, sa, ?_⟩
  unfold sSetX at g
  cases e1 : f Γ with
  | bad => rw [e1] at g; exact g
  | exc x Γ1 =>
    rw [e1] at g
    exact fun I' F' H' cls dx sa s r => g I' F' σ H' cls dx sa s.toS r
  | ok d Γ1 =>
    rw [e1] at g
    intro I1 F1 H1 sa1 s1 v xr
    have g : GoS R Wx P I F σ H (if i < Γ1.length then .next ((settleX d B Γ1).set i (some d)) else .bad) E := g
    split at g
    · rename_i hl
      exact g.setX sa1 s1 xr hl hp
    · exact g.elim
theorem ds_setX {i : Nat} {x : Str} {f : M D} {pos' : Pos} (hN : X.N.Nodup) (hi : X.N[i]? = some x) (hx : Loc X.env.scope x) (he : PE X e (tDX R Wx f B W)) (hp : i ∉ P := by decide) (hs : swapsWith e (some (.Name x pos')) pos.line X.env = pure false := by rfl)
    (hf : X.fn x = true ∨ X.env.scope.names.lookup x = some .local := by first | exact .inl rfl | exact .inr rfl | assumption) : PS X (.Assign [.Name x pos'] e pos) (tDS R Wx P (sSetX i B f)) :=
  PS.imp (ps_set hN hi hx he hs hf) fun E σ H h => setX_core hp h
/-! ### new containers -/
/-- fresh containers since H1 -/
theorem Go.new {c : D} {Q : VK} {p : Addr} (h : Go R Wx W I1 F1 σ H1 (.ok (.own c) Γ) (kX R B W F H Q)) (sa : SA R I1 F1 Γ σ H1) (hdom : ∀ a, H1 a = none → H a = none) (sm : Same H1 H') (hp : H1 p = none)
    (ho : ∃ o, H' p = some o ∧ (∀ xs, o ≠ .tup xs) ∧ ∀ ob u, o ≠ .frz ob u) (r : ORep R (J I1 F1 B) H' (.ref p) c fun a => a = p) : Q (.ref p) H' := by
  refine h I1 F1 H' (sa.same sm) (.grow sm (fun _ h => h) fun _ h => .inl h) (.ref p) ⟨_, r, fun a e => ?_⟩
  subst e
  refine ⟨⟨fun x => sa.itr a x hp, fun j x => ?_, ho⟩, .inr (hdom a hp)⟩
  obtain ⟨o, e, _⟩ := sa.trk j a x
  rw [hp] at e; cases e
def mOwnL (f : M (List D)) : M D := fun Γ => (f Γ).bind fun l Γ1 => if l.length ≤ sizeLine then .ok (.own (.lst l)) Γ1 else .bad
theorem Go.lst {ys : List D} {Q : VK} {p : Addr} {xs : List V} (h : Go R Wx W I1 F1 σ H1 (.ok (.own (.lst ys)) Γ) (kX R B W F H Q)) (sa : SA R I1 F1 Γ σ H1) (hdom : ∀ a, H1 a = none → H a = none) (sm : Same H1 H') (hp : H1 p = none)
    (hx : H' p = some (.lst xs)) (r : Reps R (J I1 F1 B) H' xs ys) : Q (.ref p) H' := h.new sa hdom sm hp ⟨_, hx, (fun _ e => nomatch e), fun _ _ e => nomatch e⟩ ⟨p, xs, rfl, hx, r, fun _ => .rfl⟩
theorem dx_lst {f : M (List D)} (h : PA X es (tDA R Wx f B W)) : PE X (.List es pos) (tDX R Wx (mOwnL f) B W) := PE.imp (pe_lst h) fun σ H Q ⟨Γ, I, F, sa, g⟩ => by
  refine ⟨Γ, I, F, sa, (g.bind (W1 := W) (W2 := W) (fun i h => h) (fun i h => h)).imp fun l Γ1 I1 F1 H1 sa1 s1 g1 xs rv => ?_⟩
  split at g1
  · rename_i hl
    exact ⟨by rw [rv.length]; exact hl, fun p hp => g1.lst sa1 s1.dom (same_upd hp) hp upd_same (rv.ext (.same (same_upd hp)) fun _ h => h)⟩
  · exact g1.elim
/-- a built-in call that gives a new list -/
def CallW (R : RX) (r : List V → Hp → VK → Prop) (f : List D → Option (List D)) : Prop := ∀ (I : Addr → Prop) (H : Hp) (xs : List V) (ds : List D) (l : List D) (Q : VK), Reps R I H xs ds → f ds = some l →
  (∀ p ys H', Same H H' → H p = none → H' p = some (.lst ys) → Reps R I H' ys l → Q (.ref p) H') → r xs H Q
def mCW (f : List D → Option (List D)) (fa : M (List D)) : M D := fun Γ => (fa Γ).bind fun xs Γ1 => (optO (f xs) Γ1).bind fun l Γ2 => .ok (.own (.lst l)) Γ2
theorem cw_core {r : List V → Hp → VK → Prop} {f : List D → Option (List D)} {fa : M (List D)} (ho : CallW R r f) {σ : L2.St} {H : Hp} {Q : VK} (h : tDX R Wx (mCW f fa) B W σ H Q) : tCB r (tDA R Wx fa B W) σ H Q := by
  obtain ⟨Γ, I, F, sa, g⟩ := h
  refine ⟨Γ, I, F, sa, (g.bind (W1 := W) (W2 := W) (fun i h => h) (fun i h => h)).imp fun x Γ1 I1 F1 H1 sa1 s1 g1 v rv => ?_⟩
  cases q : f x with
  | none => rw [q] at g1; exact g1.elim
  | some z =>
    rw [q] at g1
    exact ho _ _ _ _ _ _ rv q fun p ys H' sm hp hx ry => g1.lst sa1 s1.dom sm hp hx ry
theorem dx_callTy {T : String} {x : Str} {p : Pos} {r : List V → Hp → VK → Prop} {f : List D → Option (List D)} {fa : M (List D)} (hc : CallR X (.type T) r) (ho : CallW R r f) (hg : Gl X x) (hm : X.mg x = none) (hv : bootBuiltins x = some (.type T)) (ha : PA X (e :: es) (tDA R Wx fa B W))
    (hn : x ≠ "__name__" := by decide) (hdb : (x == ("__debug__" : Str)) = false := by decide) (he : starEach (e :: es) X.env = (false, eval e X.env) :: starEach es X.env := by rfl) (hpl : (backTo pos (starEach es X.env)).any (·.1) = false := by rfl) :
    PE X (.Call (.Name x p) (e :: es) [] pos) (tDX R Wx (mCW f fa) B W) := PE.imp (pe_callTy hc hg hm hv ha hn hdb he hpl) fun σ H Q h => cw_core ho h
theorem dx_callB {id : String} {x : Str} {p : Pos} {r : List V → Hp → VK → Prop} {f : List D → Option (List D)} {fa : M (List D)} (hc : CallR X (.builtin id) r) (ho : CallW R r f) (hg : Gl X x) (hm : X.mg x = none) (hv : bootBuiltins x = some (.builtin id)) (ha : PA X (e :: es) (tDA R Wx fa B W))
    (hn : x ≠ "__name__" := by decide) (hdb : (x == ("__debug__" : Str)) = false := by decide) (he : starEach (e :: es) X.env = (false, eval e X.env) :: starEach es X.env := by rfl) (hpl : (backTo pos (starEach es X.env)).any (·.1) = false := by rfl) :
    PE X (.Call (.Name x p) (e :: es) [] pos) (tDX R Wx (mCW f fa) B W) := PE.imp (pe_callB hc hg hm hv ha hn hdb he hpl) fun σ H Q h => cw_core ho h
def listW : List D → Option (List D)
  | [.lst l] => some l
  | [.tup l] => some l
  | [.scr l] => some (l.map .int)
  | _ => none
theorem list_okW : CallW R (fun xs H Q => ∃ p ys, xs = [.ref p] ∧ (SqL R.K H p ys ∨ SqT R.K H p ys) ∧ ∀ l, H l = none → Q (.ref l) (upd H l (.lst ys))) listW := by
  intro I H xs ds z Q r e k
  have fin : ∀ {ys : List V}, Reps R I H ys z → ∀ l, H l = none → Q (.ref l) (upd H l (.lst ys)) := fun ry l hl => k l _ _ (same_upd hl) hl upd_same (ry.ext (.same (same_upd hl)) fun _ h => h)
  unfold listW at e
  split at e
  · cases e
    obtain ⟨v, rfl, q⟩ := reps1 r
    cases q with
    | lst h1 h2 t => exact ⟨_, _, rfl, .inl (.of h2), fin t⟩
  · cases e
    obtain ⟨v, rfl, q⟩ := reps1 r
    cases q with
    | tup h2 t => exact ⟨_, _, rfl, .inr h2, fin t⟩
  · cases e
    obtain ⟨v, rfl, q⟩ := reps1 r
    cases q with
    | scr h => exact ⟨_, _, rfl, .inl h.sq, fin (Reps.ints _)⟩
  · cases e
theorem dx_dnew : PE X (.Dict [] [] pos) (tDX R Wx (mC (.own (.dct []))) [] []) := PE.imp pe_dnewK fun σ H Q ⟨Γ, I, F, sa, g⟩ p hp =>
  Go.new (H' := upd H p (.dK [])) (p := p) g sa (fun _ h => h) (same_upd hp) hp ⟨_, upd_same, (fun _ e => nomatch e), fun _ _ e => nomatch e⟩ ⟨p, [], rfl, upd_same, .nil, fun _ => .rfl⟩
/-! ### comprehensions -/
theorem lc_own {fi : M (List D)} {g : AsT} {ft : M Bool} {fe : M D} {σ : L2.St} {H : Hp} {Q : VK} (hT : ∀ i ∈ T, i ∈ vs) (hW : ∀ i ∈ Wt ++ We, i ∉ vs) (hB : ∀ i ∈ Be, i ∉ Wt ++ We) (hBv : ∀ i ∈ Be, i ∉ vs)
    (h : tDX R Wx (fun Γ => (mLcC Bi fi g vs ft fe Γ).bind fun ys Γ1 => .ok (.own (.lst ys)) Γ1) Be (Wi ++ (Bi ++ (Wt ++ We))) σ H Q) : tLc (tDI R Wx fi Bi Wi) (tDG R T g) (tDT R Wf ft Wt) (tD R Wf fe Be We) vs σ H Q := by
  obtain ⟨Γ, I, F, sa, q⟩ := h
  refine lc_core (Bi := Bi) (k := fun ys Γ' I' F' H' => kX R Be (Wi ++ (Bi ++ (Wt ++ We))) F H Q (.own (.lst ys)) Γ' I' F' H') hT hW hB hBv sa ?_ ?_
  · have q : Go R Wx (Wi ++ (Bi ++ (Wt ++ We))) I F σ H ((mLcC Bi fi g vs ft fe Γ).bind fun ys Γ1 => .ok (.own (.lst ys)) Γ1) (kX R Be (Wi ++ (Bi ++ (Wt ++ We))) F H Q) := q
    cases e1 : mLcC Bi fi g vs ft fe Γ with
    | bad => rw [e1] at q; exact q
    | exc x Γ1 => rw [e1] at q; exact q
    | ok ys Γ1 =>
      rw [e1] at q
      exact fun I' F' H' sa' s' => q I' F' H' sa' s'
  · intro ys Γ' I1 F1 H1 I2 F2 H2 D xs Γ1 sa1 dom2 g1 hD sa2 s2 e2 nI nF rs
    have sb := sa1.frz (B := Bi)
    have s1 : Stp (Bi ++ (Wt ++ We)) I1 F1 H1 (J I1 F1 Bi) (fun j a => j ∉ Bi ∧ F1 j a) H1 := ⟨fun _ _ h _ => h, fun i hi a x => ⟨fun z => hi (List.mem_append_left _ z), x⟩, fun i a x => .inr (.inl x.2), fun a x => by
      rcases x with x | ⟨j, hj, x⟩
      · exact .inl x
      · exact .inr (.inl ⟨j, List.mem_append_left _ hj, x⟩), fun _ x => .inl x, fun _ x => x⟩
    have s3 := s1.trans (W := Bi ++ (Wt ++ We)) s2 (fun _ h => h) fun i h => List.mem_append_right _ h
    refine g1 I2 F2 H2 sa2 s3 (.ref D) ⟨fun a => a = D, ⟨D, xs, rfl, e2, rs, fun _ => .rfl⟩, fun a e => ?_⟩
    subst e
    exact ⟨⟨nI, nF, _, e2, (fun _ e => nomatch e), fun _ _ e => nomatch e⟩, .inr (dom2 a hD)⟩
end
end Dl
/-! DL10: comprehensions as values, methods of own lists, items of own lists, isinstance. -/
namespace Dl
open PySem PySem.Spec PyProof.Rows L2
def mLcX (Bi : List Nat) (fi : M (List D)) (g : AsT) (vs : List Nat) (ft : M Bool) (fe : M D) : M D := fun Γ => (mLcC Bi fi g vs ft fe Γ).bind fun ys Γ1 => .ok (.own (.lst ys)) Γ1
section
variable {X : Cx} {R : RX} {Wx : WX} {P W Wa Wb We Wi Wt B Ba Bb Be Bi T : List Nat} {a b c e tg iter elt : Expr} {es ifs : List Expr} {pos : Pos} {st : Stmt} {sts : List Stmt} {I I' I1 : Addr → Prop} {F F' F1 : Fps} {Γ Γ1 : Env} {σ σ' : L2.St} {H H' H1 : Hp} {E : Ends}
theorem dx_lc {scope : Scope} {own : List (Str × Nat)} {vs : List Nat} {fi : M (List D)} {g : AsT} {ft : M Bool} {fe : M D} (hc : X.calm = true) (hN : X.N.Nodup) (hi : PI X tg iter (tDI R Wx fi Bi Wi)) (ok : BlkOk X.N X.env.scope scope own)
    (hg : ∀ (s : Shared) (H : Hp) (C : Addr) (cl : List (Str × Addr)) (fp : List Addr), PG (X.blk s H scope (compEnvC scope cl C X.env) fp) tg (tDG R T g)) (ht : ∀ (s : Shared) (H : Hp) (C : Addr) (cl : List (Str × Addr)) (fp : List Addr), PTs (X.blk s H scope (compEnvC scope cl C X.env) fp) ifs (tDT R Wf ft Wt))
    (he : ∀ (s : Shared) (H : Hp) (C : Addr) (cl : List (Str × Addr)) (fp : List Addr), PE (X.blk s H scope (compEnvC scope cl C X.env) fp) elt (tD R Wf fe Be We)) (hv : own.map (·.2) = vs := by rfl)
    (hT : ∀ i ∈ T, i ∈ vs := by decide) (hW : ∀ i ∈ Wt ++ We, i ∉ vs := by decide) (hB : ∀ i ∈ Be, i ∉ Wt ++ We := by decide) (hBv : ∀ i ∈ Be, i ∉ vs := by decide) (hs : ∀ x, foldedSetIterable iter X.env x = pure x := by intro _; rfl) :
    PE X (.ListComp elt [⟨tg, iter, ifs, 0⟩] scope pos) (tDX R Wx (mLcX Bi fi g vs ft fe) Be (Wi ++ (Bi ++ (Wt ++ We)))) := by
  subst hv
  exact PE.imp (pe_lc hc hN hi ok hg ht he hs) fun σ H Q h => lc_own hT hW hB hBv h
/-- name = [..] on one line -/
theorem ds_setLc {i : Nat} {y : Str} {py spos : Pos} {scope : Scope} {own : List (Str × Nat)} {vs : List Nat} {fi : M (List D)} {g : AsT} {ft : M Bool} {fe : M D} (hc : X.calm = true) (hN : X.N.Nodup) (hy : X.N[i]? = some y) (hyl : X.env.scope.names.lookup y = some .local)
    (hsw : swapsWith (.ListComp elt [⟨tg, iter, ifs, 0⟩] scope pos) (some (.Name y py)) spos.line X.env = pure true) (hi : PI X tg iter (tDI R Wx fi Bi Wi)) (ok : BlkOk X.N X.env.scope scope own)
    (hg : ∀ (s : Shared) (H : Hp) (C : Addr) (cl : List (Str × Addr)) (fp : List Addr), PG (X.blk s H scope (compEnvC scope cl C X.env) fp) tg (tDG R T g)) (ht : ∀ (s : Shared) (H : Hp) (C : Addr) (cl : List (Str × Addr)) (fp : List Addr), PTs (X.blk s H scope (compEnvC scope cl C X.env) fp) ifs (tDT R Wf ft Wt))
    (he : ∀ (s : Shared) (H : Hp) (C : Addr) (cl : List (Str × Addr)) (fp : List Addr), PE (X.blk s H scope (compEnvC scope cl C X.env) fp) elt (tD R Wf fe Be We)) (hv : own.map (·.2) = vs := by rfl)
    (hT : ∀ i ∈ T, i ∈ vs := by decide) (hW : ∀ i ∈ Wt ++ We, i ∉ vs := by decide) (hB : ∀ i ∈ Be, i ∉ Wt ++ We := by decide) (hBv : ∀ i ∈ Be, i ∉ vs := by decide) (hp : i ∉ P := by decide) (hs : ∀ x, foldedSetIterable iter X.env x = pure x := by intro _; rfl) :
    PS X (.Assign [.Name y py] (.ListComp elt [⟨tg, iter, ifs, 0⟩] scope pos) spos) (tDS R Wx P (sSetX i Be (mLcX Bi fi g vs ft fe))) := by
  subst hv
  exact PS.imp (ps_setLc hc hN hy hyl hsw hi ok hg ht he hs) fun E σ H h => lc_own (Q := fun v H1 => E.nx (σ.set i (some v)) H1) hT hW hB hBv (setX_core hp h)
/-! ### what is no container borrows nothing -/
def mFree (f : M D) : M D := fun Γ => (f Γ).bind fun d Γ1 => if free d = true then .ok d Γ1 else .bad
theorem de_free {f : M D} (h : PE X e (tD R Wx f B W)) : PE X e (tD R Wx (mFree f) [] W) := PE.imp h fun σ H Q ⟨Γ, I, F, sa, g⟩ => by
  refine ⟨Γ, I, F, sa, ?_⟩
  unfold mFree at g
  cases e1 : f Γ with
  | bad => rw [e1] at g; exact g
  | exc x Γ1 => rw [e1] at g; exact g
  | ok d Γ1 =>
    rw [e1] at g
    intro I1 F1 H1 sa1 s1 v rv
    have g : Go R Wx W I F σ H (if free d = true then .ok d Γ1 else .bad) (kE R [] Q) := g
    split at g
    · rename_i hf
      exact g I1 F1 H1 sa1 s1 v (rv.free hf)
    · exact g.elim
/-! ### methods of own lists -/
def settles (ds : List D) (B : List Nat) (Γ : Env) : Env := if frees ds = true then Γ else frz B Γ
@[simp] theorem settles_nil (ds : List D) (Γ : Env) : settles ds [] Γ = Γ := by unfold settles frz; split <;> rfl
def ownL (Γ : Env) (i : Nat) : Option (List D) := match Γ[i]? with
  | some (some (.own (.lst ds))) => some ds
  | _ => none
/-- what a method does: contents, arguments; what it gives, the new contents -/
abbrev Eff := List D → List D → Option (D × List D)
def EffD (R : RX) (r : V → List V → Hp → VK → Prop) (f : Eff) : Prop := ∀ (I : Addr → Prop) (H : Hp) (p : Addr) (xs us : List V) (ds as zs : List D) (z : D) (Q : VK), H p = some (.lst xs) → ¬ I p → Reps R I H xs ds → Reps R I H us as → f ds as = some (z, zs) →
  (∀ ys u, ys.length ≤ sizeLine → Reps R I H ys zs → Rep R I H u z → Q u (upd H p (.lst ys))) → r (.ref p) us H Q
def mMth (i : Nat) (B : List Nat) (eff : Eff) (fa : M (List D)) : M D := fun Γ => match ownL Γ i with
  | none => .bad
  | some _ => (fa Γ).bind fun as Γ1 => match ownL (settles as B Γ1) i with
    | none => .bad
    | some ds => match eff ds as with
      | none => .bad
      | some (z, zs) => .ok z ((settles as B Γ1).set i (some (.own (.lst zs))))
theorem SA.ownL (sa : SA R I F Γ σ H) {i : Nat} {ds : List D} (h : Dl.ownL Γ i = some ds) : ∃ p xs, σ[i]? = some (some (.ref p)) ∧ H p = some (.lst xs) ∧ Reps R I H xs ds ∧ ∀ a, F i a ↔ a = p := by
  have k := sa.ok i
  unfold Dl.ownL at h
  split at h
  · rename_i l e1
    cases h
    rw [e1] at k
    obtain ⟨v, ev, p, xs, rfl, h1, h2, h3⟩ := k
    exact ⟨p, xs, ev, h1, h2, h3⟩
  · cases h
theorem SlotOk.ext {g : Option (Option D)} {s : Option (Option V)} {Fo : Addr → Prop} (k : SlotOk R I H g s Fo) (ex : Ext I H H') (fs : ∀ a o, Fo a → H a = some o → H' a = some o) : SlotOk R I H' g s Fo := by
  unfold SlotOk at k ⊢
  split at k
  · obtain ⟨v, e, k⟩ := k
    exact ⟨v, e, k.ext ex (fun _ h => h) fs⟩
  · obtain ⟨⟨v, e, r⟩, n⟩ := k
    exact ⟨⟨v, e, r.ext ex fun _ h => h⟩, n⟩
  · exact k
/-- an own list's content changes -/
theorem SA.put (sa : SA R I F Γ σ H) {i : Nat} {ds zs : List D} {p : Addr} {ys : List V} (h : Dl.ownL Γ i = some ds) (hs : σ[i]? = some (some (.ref p))) (hF : ∀ a, F i a ↔ a = p) (hp : ∃ xs, H p = some (.lst xs)) (r : Reps R I H ys zs) : SA R I F (Γ.set i (some (.own (.lst zs)))) σ (upd H p (.lst ys)) ∧ Ext I H (upd H p (.lst ys)) := by
  obtain ⟨xs, hp⟩ := hp
  have nI : ¬ I p := sa.apt i p ((hF p).mpr rfl)
  have ex : Ext I H (upd H p (.lst ys)) := by
    refine ⟨fun a o x e => ?_, fun a zs e => ?_, fun a o u e => ?_⟩
    · rw [upd_ne (show a ≠ p from fun z => nI (z ▸ x))]; exact e
    · rw [upd_ne (show a ≠ p from fun z => by subst z; rw [hp] at e; cases e)]; exact e
    · rw [upd_ne (show a ≠ p from fun z => by subst z; rw [hp] at e; cases e)]; exact e
  have fs : ∀ j a o, j ≠ i → F j a → H a = some o → upd H p (.lst ys) a = some o := fun j a o hj x e => by
    rw [upd_ne (show a ≠ p from fun z => hj (sa.dis j i a x ((hF a).mpr z)))]; exact e
  have hi : i < Γ.length := by
    unfold Dl.ownL at h
    split at h
    · rename_i l e1
      exact (List.getElem?_eq_some_iff.mp e1).1
    · cases h
  refine ⟨⟨by rw [List.length_set]; exact sa.len, fun j => ?_, sa.dis, sa.apt, fun a x => ?_, fun j a x => ?_⟩, ex⟩
  · by_cases hj : j = i
    · subst hj
      rw [List.getElem?_set_self hi]
      exact ⟨.ref p, hs, p, ys, rfl, upd_same, r.ext ex fun _ h => h, hF⟩
    · rw [List.getElem?_set_ne (Ne.symm hj)]
      exact (sa.ok j).ext ex fun a o x => fs j a o hj x
  · obtain ⟨o, e⟩ := Option.ne_none_iff_exists'.mp (sa.itr a x)
    rw [ex.i a o x e]
    exact Option.some_ne_none o
  · by_cases hj : j = i
    · subst hj
      obtain rfl := (hF a).mp x
      exact ⟨_, upd_same, (fun _ e => nomatch e), fun _ _ e => nomatch e⟩
    · obtain ⟨o, e, t⟩ := sa.trk j a x
      exact ⟨o, fs j a o hj x e, t⟩
theorem settles_at (sa : SA R I F Γ σ H) {us : List V} {as : List D} (r : Reps R (J I F B) H us as) : ∃ I2 F2, SA R I2 F2 (settles as B Γ) σ H ∧ Reps R I2 H us as ∧ (∀ a, I a → I2 a) ∧ (∀ a, I2 a → J I F B a) ∧ (∀ j a, F2 j a → F j a) ∧ ∀ j a, j ∉ B → F j a → F2 j a := by
  unfold settles
  split
  · rename_i hf
    exact ⟨I, F, sa, r.free hf, fun _ h => h, fun _ h => .inl h, fun _ _ h => h, fun _ _ _ h => h⟩
  · exact ⟨_, _, sa.frz, r, fun _ h => .inl h, fun _ h => h, fun _ _ h => h.2, fun _ _ h x => ⟨h, x⟩⟩
theorem mth_core {i : Nat} {T : String} {r : V → List V → Hp → VK → Prop} {eff : Eff} {fa : M (List D)} {σ : L2.St} {H : Hp} {Q : VK} (hT : T = "list") (ho : EffD R r eff) (h : tD R Wx (mMth i B eff fa) [] (i :: (B ++ W)) σ H Q) : tBM R.K T r (tVar i) (tDA R Wx fa B W) σ H Q := by
  obtain ⟨Γ, I, F, sa, g⟩ := h
  unfold mMth at g
  cases e0 : ownL Γ i with
  | none => simp only [e0] at g; exact g.elim
  | some ds0 =>
    simp only [e0] at g
    obtain ⟨p, xs0, es, ep, _, hF0⟩ := sa.ownL e0
    refine ⟨.ref p, es, .inl ⟨hT, xs0, .of ep⟩, Γ, I, F, sa, ?_⟩
    refine (g.bind (W1 := W) (W2 := i :: (B ++ W)) (fun j h => List.mem_cons_of_mem _ (List.mem_append_right _ h)) (fun j h => h)).imp fun as Γ1 I1 F1 H1 sa1 s1 g1 us ru => ?_
    obtain ⟨I2, F2, sa2, r2, i12, i21, f21, f12⟩ := settles_at sa1 ru
    cases e1 : ownL (settles as B Γ1) i with
    | none => simp only [e1] at g1; exact g1.elim
    | some ds =>
      simp only [e1] at g1
      obtain ⟨p', xs, es', ep', rx, hF⟩ := sa2.ownL e1
      rw [es] at es'
      cases es'
      have hFi : ∀ a, F1 i a → ∃ j ∈ i :: (B ++ W), F1 j a := fun a x => ⟨i, List.mem_cons_self, x⟩
      cases e2 : eff ds as with
      | none => simp only [e2] at g1; exact g1.elim
      | some zz =>
        obtain ⟨z, zs⟩ := zz
        simp only [e2] at g1
        refine ho I2 H1 p xs us ds as zs z Q ep' (sa2.apt i p ((hF p).mpr rfl)) rx r2 e2 fun ys u hl ry rz => ?_
        obtain ⟨sa3, ex3⟩ := sa2.put (ys := ys) e1 es hF ⟨_, ep'⟩ ry
        refine g1 I2 F2 _ sa3 ⟨fun a o e n => ?_, fun j hj a x => ?_, fun j a x => .inr (.inl (f21 j a x)), fun a x => ?_, i12, fun a x => ?_⟩ u ((rz.ext ex3 fun _ h => h).reg fun _ => J.of)
        · rw [upd_ne (show a ≠ p from fun z => n i List.mem_cons_self (f21 _ _ ((hF a).mpr z)))]
          exact e
        · exact f12 j a (fun hb => hj (List.mem_cons_of_mem _ (List.mem_append_left _ hb))) x
        · rcases i21 a x with y | ⟨j, hj, y⟩
          · exact .inl y
          · exact .inr (.inl ⟨j, List.mem_cons_of_mem _ (List.mem_append_left _ hj), y⟩)
        · by_cases e : a = p
          · subst e; rw [upd_same] at x; cases x
          · rw [upd_ne e] at x; exact x
theorem de_mth {i : Nat} {o : Expr} {name : Str} {id : String} {apos cpos : Pos} {r : V → List V → Hp → VK → Prop} {eff : Eff} {fa : M (List D)} (hK : R.K = X.K) (slot : PySem.Slot "list" name id) (hty : typeOf (.builtin id) = pure (.type "method_descriptor")) (hm : MtR X id r) (ho : EffD R r eff) (hn : PE X o (tVar i)) (ha : PA X (e :: es) (tDA R Wx fa B W))
    (hbase : attributeBase o name X.env (eval o X.env) = eval o X.env := by rfl)
    (hfew : ((backTo cpos (starEach (e :: es) X.env)).all (fun x => !x.1) && (backToKw cpos (keywordEach [] X.env)).all (fun x => x.1.isSome)
      && decide ((e :: es).length + ([] : List Keyword).length + (if ([] : List Keyword).isEmpty then 0 else 1) < 30)) = true := by rfl)
    (hline : (apos.endLine == cpos.line) = true := by rfl) (hs : starEach (e :: es) X.env = (false, eval e X.env) :: starEach es X.env := by rfl) (hplain : (backTo cpos (starEach es X.env)).any (·.1) = false := by rfl) :
    PE X (.Call (.Attribute o name apos) (e :: es) [] cpos) (tD R Wx (mMth i B eff fa) [] (i :: (B ++ W))) := PE.imp (pe_bm PySem.F.plainAttrs_list slot hty hm hn ha hbase hfew hline hs hplain) fun σ H Q h => hK ▸ mth_core rfl ho h
end
def effAppend : Eff := fun ds as => match as with
  | [y] => if ds.length < sizeLine then some (.non, ds ++ [y]) else none
  | _ => none
theorem append_eff {R : RX} : EffD R rAppend effAppend := by
  intro I H p xs us ds as zs z Q hp nI rx ru e k
  unfold effAppend at e
  split at e
  · split at e
    · rename_i hl
      cases e
      obtain ⟨v, rfl, q⟩ := reps1 ru
      refine ⟨p, xs, v, rfl, rfl, hp, by rw [rx.length]; exact hl, k _ _ (by rw [List.length_append, rx.length, List.length_singleton]; omega) (rx.append (.cons q .nil)) .non⟩
    · cases e
  · cases e
def effExtend : Eff := fun ds as => match as with
  | [.lst l] => if ds.length + l.length ≤ sizeLine then some (.non, ds ++ l) else none
  | _ => none
theorem extend_eff {R : RX} : EffD R rExtend effExtend := by
  intro I H p xs us ds as zs z Q hp nI rx ru e k
  unfold effExtend at e
  split at e
  · split at e
    · rename_i hl
      cases e
      obtain ⟨v, rfl, q⟩ := reps1 ru
      cases q with
      | @lst b ws _ h1 h2 t => exact ⟨p, b, xs, ws, rfl, rfl, hp, h2, by rw [rx.length, t.length]; exact hl, k _ _ (by rw [List.length_append, rx.length, t.length]; exact hl) (rx.append t) .non⟩
    · cases e
  · cases e
def effPopAt : Eff := fun ds as => match as with
  | [.int i] => if -(2 ^ 63) ≤ i ∧ i < 2 ^ 63 ∧ ds.length ≤ sizeLine then (seqIndex? i ds.length).bind fun k => ds[k]?.map fun y => (y, ds.eraseIdx k) else none
  | _ => none
theorem Reps.eraseIdx {R : RX} {I : Addr → Prop} {H : Hp} : ∀ {xs : List V} {ds : List D} (k : Nat), Reps R I H xs ds → Reps R I H (xs.eraseIdx k) (ds.eraseIdx k)
  | _, _, _, .nil => .nil
  | _, _, 0, .cons _ t => t
  | _, _, k + 1, .cons h t => .cons h (Reps.eraseIdx k t)
theorem Reps.set {R : RX} {I : Addr → Prop} {H : Hp} {v : V} {d : D} (r : Rep R I H v d) : ∀ {xs : List V} {ds : List D} (k : Nat), Reps R I H xs ds → Reps R I H (xs.set k v) (ds.set k d)
  | _, _, _, .nil => .nil
  | _, _, 0, .cons _ t => .cons r t
  | _, _, k + 1, .cons h t => .cons h (Reps.set r k t)
theorem popAt_eff {R : RX} : EffD R rPopAt effPopAt := by
  intro I H p xs us ds as zs z Q hp nI rx ru e k
  unfold effPopAt at e
  split at e
  · split at e
    · rename_i hl
      obtain ⟨j, e1, e2⟩ := Option.bind_eq_some_iff.mp e
      obtain ⟨y, e3, e4⟩ := Option.map_eq_some_iff.mp e2
      cases e4
      obtain ⟨v, rfl, q⟩ := reps1 ru
      cases q
      obtain ⟨u, e5, q⟩ := rx.get e3
      refine ⟨p, xs, _, j, u, rfl, rfl, hp, hl.1, hl.2.1, by rw [rx.length]; exact e1, e5, k _ _ ?_ (rx.eraseIdx j) q⟩
      exact Nat.le_trans (List.length_eraseIdx_le ..) (by rw [rx.length]; exact hl.2.2)
    · cases e
  · cases e
section
variable {X : Cx} {R : RX} {Wx : WX} {P W Wa Wb We Wi Wt B Ba Bb Be Bi T : List Nat} {a b c e tg iter elt : Expr} {es ifs : List Expr} {pos : Pos} {st : Stmt} {sts : List Stmt} {I I' I1 : Addr → Prop} {F F' F1 : Fps} {Γ Γ1 : Env} {σ σ' : L2.St} {H H' H1 : Hp} {E : Ends}
/-! pop() -/
def mPop (i : Nat) : M D := fun Γ => match ownL Γ i with
  | none => .bad
  | some ds => match ds[ds.length - 1]? with
    | none => .bad
    | some y => .ok y (Γ.set i (some (.own (.lst ds.dropLast))))
theorem Reps.dropLast {I : Addr → Prop} {H : Hp} {xs : List V} {ds : List D} (r : Reps R I H xs ds) : Reps R I H xs.dropLast ds.dropLast := by
  rw [List.dropLast_eq_take, List.dropLast_eq_take, r.length]
  exact r.take _
theorem de_pop {i : Nat} {o : Expr} {apos cpos : Pos} (hK : R.K = X.K) (hm : MtR X "list.pop" rPop) (slot : PySem.Slot "list" "pop" "list.pop") (hty : typeOf (.builtin "list.pop") = pure (.type "method_descriptor")) (hn : PE X o (tVar i))
    (hbase : attributeBase o "pop" X.env (eval o X.env) = eval o X.env := by rfl) (hline : (apos.endLine == cpos.line) = true := by rfl) : PE X (.Call (.Attribute o "pop" apos) [] [] cpos) (tD R Wx (mPop i) [] [i]) := PE.imp (pe_bm0 PySem.F.plainAttrs_list slot hty hm hn hbase hline) fun σ H Q ⟨Γ, I, F, sa, g⟩ => by
  unfold mPop at g
  cases e0 : ownL Γ i with
  | none => simp only [e0] at g; exact g.elim
  | some ds =>
    simp only [e0] at g
    obtain ⟨p, xs, es, ep, rx, hF⟩ := sa.ownL e0
    cases e1 : ds[ds.length - 1]? with
    | none => simp only [e1] at g; exact g.elim
    | some y =>
      simp only [e1] at g
      obtain ⟨u, e5, q⟩ := rx.get e1
      refine ⟨.ref p, es, .inl ⟨rfl, xs, .of ep⟩, p, xs, u, rfl, rfl, ep, by rw [rx.length]; exact e5, ?_⟩
      obtain ⟨sa3, ex3⟩ := sa.put (ys := xs.dropLast) e0 es hF ⟨_, ep⟩ rx.dropLast
      refine g I F _ sa3 ⟨fun a o e n => ?_, fun j hj a x => x, fun j a x => .inr (.inl x), fun a x => .inl x, fun _ x => x, fun a x => ?_⟩ u ((q.ext ex3 fun _ h => h).reg fun _ => J.of)
      · rw [upd_ne (show a ≠ p from fun z => n i List.mem_cons_self ((hF a).mpr z))]
        exact e
      · by_cases e : a = p
        · subst e; rw [upd_same] at x; cases x
        · rw [upd_ne e] at x; exact x
/-! items of own lists -/
theorem SA.getO (sa : SA R I F Γ σ H) {i : Nat} {d : D} (h : Dl.getO Γ i = some d) : ∃ v, σ[i]? = some (some v) ∧ (Rep R I H v d ∨ ∃ Fo, ORep R I H v d Fo) := by
  have k := sa.ok i
  unfold Dl.getO at h
  unfold SlotOk at k
  split at h
  · rename_i c e2
    cases h
    rw [e2] at k
    obtain ⟨v, e, k⟩ := k
    exact ⟨v, e, .inr ⟨_, k⟩⟩
  · rename_i d' e1 e2
    cases h
    rw [e2] at k
    split at k
    · rename_i c e3
      cases e3
      exact (e1 _ rfl).elim
    · rename_i d3 e3 e4
      cases e4
      obtain ⟨⟨v, e, k⟩, _⟩ := k
      exact ⟨v, e, .inl k⟩
    · rename_i n1 n2
      exact (n2 _ rfl).elim
  · cases h
theorem ix_own {x y : V} {c dy z : D} {Fo : Addr → Prop} {Q : VK} (rx : ORep R I H x c Fo) (ry : Rep R I' H y dy) (e : ixD c dy = some z) (k : ∀ u, Rep R I H u z → Q u H) : rIx R.K x y H Q := by
  unfold ORep at rx
  split at rx
  · obtain ⟨p, xs, rfl, hp, r, _⟩ := rx
    unfold ixD at e
    split at e
    · rename_i e1
      cases e1; cases ry
      obtain ⟨v, e1, q⟩ := r.at e
      exact .inl ⟨p, xs, _, v, rfl, rfl, .of hp, e1, k v q⟩
    all_goals first | (rename_i e1; cases e1; done) | cases e
  · unfold ixD at e
    split at e <;> first | (rename_i e1; cases e1; done) | cases e
  · exact rx.elim
theorem de_ownIx {i : Nat} {fb : M D} (hK : R.K = X.K) (ha : PE X a (tVar i)) (hb : PE X b (tD R Wx fb Bb Wb)) (hs : PlainIx b := by exact fun _ _ => rfl) : PE X (.Subscript a b pos) (tD R Wx (mOwnIx i fb) [] Wb) := PE.imp (pe_ix (hK ▸ ix_seq) ha hb hs) fun σ H Q ⟨Γ, I, F, sa, g⟩ => by
  unfold mOwnIx at g
  cases e0 : Dl.getO Γ i with
  | none => simp only [e0] at g; exact g.elim
  | some c0 =>
    simp only [e0] at g
    obtain ⟨v, ev, _⟩ := sa.getO e0
    refine ⟨v, ev, Γ, I, F, sa, (g.bind (W1 := Wb) (W2 := []) (fun i h => h) (fun i h => nomatch h)).imp fun y Γ1 I1 F1 H1 sa1 s1 g1 u ru => ?_⟩
    cases e1 : Dl.getO Γ1 i with
    | none => rw [e1] at g1; exact g1.elim
    | some c =>
      rw [e1] at g1
      have g1 : Go R Wx [] I1 F1 σ H1 (optO (ixD c y) Γ1) (kE R [] Q) := g1
      cases e2 : ixD c y with
      | none => rw [e2] at g1; exact g1.elim
      | some z =>
        rw [e2] at g1
        have g2 : Go R Wx [] I1 F1 σ H1 (.ok z Γ1) (kE R [] Q) := g1
        obtain ⟨v', ev', r⟩ := sa1.getO e1
        rw [ev] at ev'
        cases ev'
        rcases r with r | ⟨Fo, r⟩
        · obtain ⟨n, rfl⟩ : ∃ n, y = .int n := by
            unfold ixD at e2
            split at e2 <;> first | exact ⟨_, rfl⟩ | cases e2
          exact ix_ops I1 H1 v u c _ z Q r (by cases ru; exact .int n) e2 fun w I2 H2 sm hi hf rw_ => g2.fin (B := []) sa1 w I2 H2 sm (fun a x => by
            rcases x with x | ⟨j, hj, _⟩
            · exact hi a x
            · cases hj) (fun a x => by
            rcases hf a x with y | y
            · exact .inl (.inl y)
            · exact .inr y) rw_
        · exact ix_own r ru e2 fun w rw_ => g1.here sa1 w (rw_.reg fun _ => J.of)
end
end Dl
/-! DL11: stores into own lists, isinstance. -/
namespace Dl
open PySem PySem.Spec PyProof.Rows L2
section
variable {X : Cx} {R : RX} {Wx : WX} {P W Wa Wb We Wi Wt B Ba Bb Be Bi T : List Nat} {a b c e tg iter elt : Expr} {es ifs : List Expr} {pos : Pos} {st : Stmt} {sts : List Stmt} {I I' I1 : Addr → Prop} {F F' F1 : Fps} {Γ Γ1 : Env} {σ σ' : L2.St} {H H' H1 : Hp} {E : Ends}
/-- x[k] = v of an own list -/
def sPut (i : Nat) (B : List Nat) (fe fi : M D) : MS := fun Γ => (fe Γ).thenS fun y Γ1 => match ownL Γ1 i with
  | none => .bad
  | some _ => (fi Γ1).thenS fun k Γ2 => match k with
    | .int n => match ownL (settle y B Γ2) i with
      | none => .bad
      | some ds => match ixN ds.length n with
        | none => .bad
        | some j => .next ((settle y B Γ2).set i (some (.own (.lst (ds.set j y)))))
    | _ => .bad
theorem settle_at (sa : SA R I F Γ σ H) {u : V} {d : D} (r : Rep R (J I F B) H u d) : ∃ I2 F2, SA R I2 F2 (settle d B Γ) σ H ∧ Rep R I2 H u d ∧ ∀ {P : List Nat}, StpS P I F σ H I2 F2 σ H := by
  unfold settle
  split
  · rename_i hf
    exact ⟨I, F, sa, r.free hf, .refl⟩
  · exact ⟨_, _, sa.frz, r, .set (fun _ h => .inl h) (fun a x => by
      rcases x with x | ⟨j, _, x⟩
      · exact .inl x
      · exact .inr ⟨j, x⟩) (fun j a x => ⟨j, x.2⟩) fun _ _ => rfl⟩
theorem ds_put {i : Nat} {o : Expr} {fe fi : M D} {p2 : Pos} (he : PE X e (tD R Wx fe B W)) (hn : PE X o (tVar i)) (hi : PE X a (tD R Wx fi Ba Wa)) (hd : ∀ j ∈ B, j ∉ Wa := by decide)
    (hs : swapsWithSole [.Subscript o a p2] e pos.line X.env = pure false := by rfl) (hw : swappedStores [.Subscript o a p2] e X.env = pure none := by rfl) (h1 : (assignEach [.Subscript o a p2] X.env).map (·.2) = [assign (.Subscript o a p2) X.env] := by rfl)
    (ha : ∀ v, assign (.Subscript o a p2) X.env v = (do
      let ov ← holding [v] (eval o X.env)
      let iv ← holding [v, ov] (eval a X.env)
      standAt p2
      holding [v, ov, iv] (setItem ov iv v)
      release [v, ov, iv] []) := by intro _; rfl) :
    PS X (.Assign [.Subscript o a p2] e pos) (tDS R Wx P (sPut i B fe fi)) := PS.imp (ps_asg he (pg_sub hn hi set_list ha) hs hw h1) fun E σ H ⟨Γ, I, F, sa, g⟩ => by
  refine ⟨Γ, I, F, sa, (g.expr W).imp fun y Γ1 I1 F1 H1 sa1 s1 g1 v rv => ?_⟩
  cases e0 : ownL Γ1 i with
  | none => simp only [e0] at g1; exact g1.elim
  | some ds0 =>
    simp only [e0] at g1
    obtain ⟨p, xs0, es0, ep0, _, hF0⟩ := sa1.ownL e0
    refine ⟨.ref p, es0, Γ1, I1, F1, sa1, (g1.expr Wa).imp fun k Γ2 I2 F2 H2 sa2 s2 g2 u ru => ?_⟩
    cases k <;> first | exact g2.elim | skip
    rename_i n
    obtain ⟨I3, F3, sa3, r3, st3⟩ := settle_at sa2 (rv.stp sa1 s2 hd)
    cases ru
    cases e1 : ownL (settle y B Γ2) i with
    | none => simp only [e1] at g2; exact g2.elim
    | some ds =>
      simp only [e1] at g2
      obtain ⟨p', xs, es', ep', rx, hF⟩ := sa3.ownL e1
      rw [es0] at es'
      cases es'
      cases e2 : ixN ds.length n with
      | none => simp only [e2] at g2; exact g2.elim
      | some j =>
        simp only [e2] at g2
        refine ⟨p, xs, n, j, rfl, rfl, ep', by rw [rx.length]; exact e2, ?_⟩
        obtain ⟨sa4, ex4⟩ := sa3.put (ys := xs.set j v) e1 es0 hF ⟨_, ep'⟩ (Reps.set r3 j rx)
        have s4 : StpS P I3 F3 σ H2 I3 F3 σ (upd H2 p (.lst (xs.set j v))) := ⟨fun a o e n => by
            rw [upd_ne (show a ≠ p from fun z => n i ((hF a).mpr z))]; exact e, fun i a x => .inl ⟨i, x⟩, fun a x => .inl x, fun _ x => x, fun a x => by
            by_cases e : a = p
            · subst e; rw [upd_same] at x; cases x
            · rw [upd_ne e] at x; exact x, fun _ _ => rfl⟩
        exact g2 I3 F3 σ _ sa4 (st3.trans s4)
end
/-! ### isinstance -/
inductive Cl where
  | ty (n : String)
  | cl (c : Nat)
def Cl.v (R : RX) : Cl → V
  | .ty n => .ty n
  | .cl c => .ref (R.cla c)
def Cl.val (R : RX) : Cl → Value
  | .ty n => .type n
  | .cl c => .ref (R.cla c)
theorem Cl.clsV (R : RX) : ∀ t : Cl, ClsV (t.v R) (t.val R)
  | .ty n => .ty n
  | .cl c => .own _
def tyOf (okc : Nat → Bool) : D → Option Cl
  | .non => some (.ty "NoneType")
  | .bl _ => some (.ty "bool")
  | .int _ => some (.ty "int")
  | .str _ => some (.ty "str")
  | .tup _ => some (.ty "tuple")
  | .lst _ => some (.ty "list")
  | .scr _ => some (.ty "list")
  | .dct _ => some (.ty "dict")
  | .ins c _ => if okc c then some (.cl c) else none
  | .own _ => none
def isAny (kt : Cl → Cl → Option Bool) (t : Cl) : List Cl → Option Bool
  | [] => some false
  | c :: r => match kt t c with
    | some true => some true
    | some false => isAny kt t r
    | none => none
structure IsK (K : PySem.W.Frag) (R : RX) (kt : Cl → Cl → Option Bool) (okc : Nat → Bool) : Prop where
  one : ∀ t c b, kt t c = some b → PySem.W.kitOne K (t.val R) (c.val R) = some b
  ins : ∀ c, okc c = true → Cls K (R.cla c) ∧ PySem.W.findIn K (.ref (R.cla c)) "__class__" = some (some (.builtin "object.__class__")) ∧ PySem.W.specialIn K (.builtin "object.__class__") "__get__" = some (some (.builtin "getset_descriptor.__get__")) ∧
    PySem.W.takesIn K (.builtin "object.__class__") = some true ∧ PySem.W.mroIn K (R.cla c) (.type "object") = some true
def kt0 : Cl → Cl → Option Bool
  | .ty a, .ty b => kitB a b
  | _, _ => none
theorem isK0 {K : PySem.W.Frag} {R : RX} : IsK K R kt0 fun _ => false := by
  refine ⟨fun t c b h => ?_, fun _ h => nomatch h⟩
  unfold kt0 at h
  split at h
  · exact kit_ty h
  · cases h
theorem IsK.any {K : PySem.W.Frag} {R : RX} {kt : Cl → Cl → Option Bool} {okc : Nat → Bool} (k : IsK K R kt okc) {t : Cl} : ∀ {cs : List Cl} {b : Bool}, isAny kt t cs = some b → PySem.W.kitAny K (t.val R) (cs.map (Cl.val R)) = some b
  | [], b, h => h
  | c :: cs, b, h => by
    unfold isAny at h
    rw [List.map_cons]
    cases e : kt t c with
    | none => rw [e] at h; cases h
    | some d =>
      rw [e] at h
      refine kitAny_cons (k.one _ _ _ e) (fun hd => ?_) fun hd => ?_
      · subst hd; exact k.any h
      · subst hd; cases h; rfl
theorem IsK.tyx {K : PySem.W.Frag} {R : RX} {kt : Cl → Cl → Option Bool} {okc : Nat → Bool} (k : IsK K R kt okc) (hK : R.K = K) {I : Addr → Prop} {H : Hp} {x : V} {d : D} {t : Cl} (r : Rep R I H x d) (h : tyOf okc d = some t) : TyX K H x (t.val R) := by
  subst hK
  unfold tyOf at h
  cases r with
  | non => cases h; exact .base .non
  | bl b => cases h; exact .base (.bl b)
  | int i => cases h; exact .base (.int i)
  | str i => cases h; exact .base (.str i)
  | tup h2 _ =>
    cases h
    rcases h2 with (h2 | ⟨o, h2⟩) | ⟨o, its, n, h2, h3, _⟩
    · exact .base (.tup h2)
    · exact .fTuple h2
    · exact .kTuple h2 h3
  | lst _ h2 _ => cases h; exact .base (.lst h2)
  | scr h2 =>
    cases h
    rcases h2 with ⟨o, h2⟩ | ⟨o, its, n, h2, h3, _⟩
    · exact .base (.frz h2)
    · exact .kList h2 h3
  | dct _ h2 _ =>
    cases h
    rcases h2 with h2 | ⟨o, h2⟩
    · exact .base (.dK h2)
    · exact .fDict h2
  | @ins a dx c fs fds _ h2 _ =>
    have h : (if okc c = true then some (Cl.cl c) else none) = some t := h
    split at h
    · rename_i ho
      cases h
      obtain ⟨h3, h4, h5, h6, h7⟩ := k.ins c ho
      exact .base (.ins h2 h3 h4 h5 h6 h7)
    · cases h
def isiD (kt : Cl → Cl → Option Bool) (okc : Nat → Bool) (cs : List Cl) (d : D) : Option D := (tyOf okc d).bind fun t => (isAny kt t cs).map D.bl
def mIsi (kt : Cl → Cl → Option Bool) (okc : Nat → Bool) (cs : List Cl) (f : M D) : M D := fun Γ => (f Γ).bind fun d Γ1 => optO (isiD kt okc cs d) Γ1
def tCs (vs : List V) : TA := fun _ H Q => Q vs H
section
variable {X : Cx} {R : RX} {Wx : WX} {W B : List Nat} {a b c e : Expr} {es : List Expr} {pos p : Pos} {kt : Cl → Cl → Option Bool} {okc : Nat → Bool} {f : M D}
theorem pa_cs0 : PA X [] (tCs []) := pa_nil
theorem pa_cs {v : V} {vs : List V} (h : PE X e (tC v)) (t : PA X es (tCs vs)) (hs : starEach (e :: es) X.env = (false, eval e X.env) :: starEach es X.env := by rfl) : PA X (e :: es) (tCs (v :: vs)) := pa_cons h t hs
theorem paired_cls (R : RX) : ∀ cs : List Cl, Paired ClsV (cs.map (Cl.v R)) (cs.map (Cl.val R))
  | [] => .nil
  | c :: cs => .cons (c.clsV R) (paired_cls R cs)
theorem de_isi1 {t : Cl} (hK : R.K = X.K) (k : IsK X.K R kt okc) (hg : Gl X "isinstance") (hm : X.mg "isinstance" = none) (he : PE X a (tD R Wx f B W)) (hc : PE X c (tC (t.v R))) (h1 : starEach [a, c] X.env = (false, eval a X.env) :: starEach [c] X.env := by rfl) (h2 : starEach [c] X.env = (false, eval c X.env) :: starEach [] X.env := by rfl)
    (hpl : (backTo pos (starEach [c] X.env)).any (·.1) = false := by rfl) : PE X (.Call (.Name "isinstance" p) [a, c] [] pos) (tD R Wx (mIsi kt okc [t] f) [] W) :=
  PE.imp (pe_callB call_isi hg hm PyProof.Rows.boot_isinstance (pa_cons he (pa_cons hc pa_nil h2) h1) (by decide) (by decide) h1 hpl) fun σ H Q ⟨Γ, I, F, sa, g⟩ => by
    refine ⟨Γ, I, F, sa, (g.bind (W1 := W) (W2 := []) (fun i h => h) (fun i h => nomatch h)).imp fun d Γ1 I1 F1 H1 sa1 s1 g1 v rv => ?_⟩
    cases e1 : isiD kt okc [t] d with
    | none => rw [e1] at g1; exact g1.elim
    | some z =>
      rw [e1] at g1
      obtain ⟨ty, e2, e3⟩ := Option.bind_eq_some_iff.mp e1
      obtain ⟨r, e4, rfl⟩ := Option.map_eq_some_iff.mp e3
      refine ⟨v, _, ty.val R, t.val R, r, rfl, t.clsV R, k.tyx hK rv e2, ?_, g1.here sa1 _ (.bl r)⟩
      unfold isAny isAny at e4
      split at e4
      · rename_i e5
        cases e4
        exact k.one _ _ _ e5
      · rename_i e5
        cases e4
        exact k.one _ _ _ e5
      · cases e4
theorem de_isiT {cs : List Cl} {n : Nat} {p2 : Pos} (hK : R.K = X.K) (k : IsK X.K R kt okc) (hg : Gl X "isinstance") (hm : X.mg "isinstance" = none) (he : PE X a (tD R Wx f B W)) (hc : PA X es (tCs (cs.map (Cl.v R)))) (hz : cs.length ≤ sizeLine := by decide)
    (h1 : starEach [a, .Tuple es n p2] X.env = (false, eval a X.env) :: starEach [.Tuple es n p2] X.env := by rfl) (h2 : starEach [.Tuple es n p2] X.env = (false, eval (.Tuple es n p2) X.env) :: starEach [] X.env := by rfl)
    (hpl : (backTo pos (starEach [.Tuple es n p2] X.env)).any (·.1) = false := by rfl) : PE X (.Call (.Name "isinstance" p) [a, .Tuple es n p2] [] pos) (tD R Wx (mIsi kt okc cs f) [] W) :=
  PE.imp (pe_callB call_isiT hg hm PyProof.Rows.boot_isinstance (pa_cons he (pa_cons (pe_tup hc) pa_nil h2) h1) (by decide) (by decide) h1 hpl) fun σ H Q ⟨Γ, I, F, sa, g⟩ => by
    refine ⟨Γ, I, F, sa, (g.bind (W1 := W) (W2 := []) (fun i h => h) (fun i h => nomatch h)).imp fun d Γ1 I1 F1 H1 sa1 s1 g1 v rv => ?_⟩
    cases e1 : isiD kt okc cs d with
    | none => rw [e1] at g1; exact g1.elim
    | some z =>
      rw [e1] at g1
      obtain ⟨ty, e2, e3⟩ := Option.bind_eq_some_iff.mp e1
      obtain ⟨r, e4, rfl⟩ := Option.map_eq_some_iff.mp e3
      refine ⟨by rw [List.length_map]; exact hz, fun q hq => ?_⟩
      have ext := Ext.same (I := J I1 F1 B) (same_upd (o := .tup (cs.map (Cl.v R))) hq)
      refine ⟨v, q, cs.map (Cl.v R), ty.val R, cs.map (Cl.val R), r, rfl, upd_same, paired_cls R cs, k.tyx hK (rv.ext ext fun _ h => h) e2, k.any e4, ?_⟩
      exact g1.grown (I' := I1) sa1 (same_upd hq) (fun _ h => h) (fun _ h => .inl h) (fun a x => by
        obtain ⟨o, e⟩ := Option.ne_none_iff_exists'.mp (sa1.itr a x)
        rw [same_upd hq a o e]
        exact Option.some_ne_none o) _ (.bl r)
end
end Dl
/-! DL12: defs and their calls. -/
namespace Dl
open PySem PySem.Spec PyProof.Rows L2
/-! ### a def's promise, in data -/
inductive OutF where
  | ret (d : D) (io : Dl.Env)
  | exc (x : Exc)
  | bad
/-- out: what the def does; io: what its first parameter (an own container) holds behind it -/
def spD (R : RX) (out : List D → OutF) : Sp := fun vs H Q _ => ∃ (as : List D) (I : Addr → Prop) (F : Fps), SA R I F (as.map some) (vs.map some) H ∧ match out as with
  | .ret d io => ∀ I' F' H' v, SA R I' F' io ((vs.map some).take io.length) H' → StpS [] I F (vs.map some) H I' F' (vs.map some) H' → RRep R F H I' F' H' v d → Q v H'
  | _ => False
def fin1 (p : Bool) (d : D) (Γ : Dl.Env) : OutF := if p = true then (match Γ[(0 : Nat)]? with
  | some (some (.own c)) => .ret d [some (.own c)]
  | _ => .bad) else .ret d []
def fnD (p : Bool) (np nl : Nat) (body : MS) (as : List D) : OutF := if as.length = np then (match body (as.map some ++ List.replicate nl none) with
  | .ret d Γ => fin1 p d Γ
  | .next Γ => fin1 p .non Γ
  | .exc x Γ => .exc x
  | _ => .bad) else .bad
def pinsP (p : Bool) : List Nat := if p = true then [0] else []
section
variable {R : RX} {I I' I1 : Addr → Prop} {F F' F1 : Fps} {Γ Γ1 : Dl.Env} {σ σ' : L2.St} {H H' H1 : Hp}
theorem SA.more (sa : SA R I F Γ σ H) (nl : Nat) : SA R I F (Γ ++ List.replicate nl none) (σ ++ List.replicate nl none) H := by
  refine ⟨by rw [List.length_append, List.length_append, sa.len, List.length_replicate, List.length_replicate], fun i => ?_, sa.dis, sa.apt, sa.itr, sa.trk⟩
  have k := sa.ok i
  by_cases hi : i < Γ.length
  · rw [List.getElem?_append_left hi, List.getElem?_append_left (by rw [← sa.len]; exact hi)]
    exact k
  · have n : ∀ a, ¬ F i a := by
      have e : Γ[i]? = none := List.getElem?_eq_none (by omega)
      rw [e] at k
      exact k
    rw [List.getElem?_append_right (by omega)]
    cases e : (List.replicate nl (none : Option D))[i - Γ.length]? with
    | none => exact n
    | some o =>
      have := List.mem_of_getElem? e
      rw [List.mem_replicate] at this
      rw [this.2]
      exact n
/-- of the slots only the first -/
theorem SA.first {c : D} (sa : SA R I F Γ σ H) (h : Γ[0]? = some (some (.own c))) {v : V} (hv : σ[0]? = some (some v)) : SA R I (fun i a => i = 0 ∧ F 0 a) [some (.own c)] [some v] H := by
  have k := sa.ok 0
  rw [h, hv] at k
  refine ⟨rfl, fun i => ?_, fun i j a x y => x.1.trans y.1.symm, fun i a x => sa.apt 0 a x.2, sa.itr, fun i a x => sa.trk 0 a x.2⟩
  cases i with
  | zero =>
    have e : (fun a => (0 : Nat) = 0 ∧ F 0 a) = F 0 := funext fun a => propext ⟨fun x => x.2, fun x => ⟨rfl, x⟩⟩
    show SlotOk R I H (some (some (.own c))) (some (some v)) fun a => (0 : Nat) = 0 ∧ F 0 a
    rw [e]
    exact k
  | succ i => exact fun a x => nomatch x.1
theorem SA.nil (sa : SA R I F Γ σ H) : SA R I (fun _ _ => False) [] [] H := ⟨rfl, fun i => (fun _ x => x), fun _ _ _ x => x.elim, fun _ _ x => x.elim, sa.itr, fun _ _ x => x.elim⟩
theorem fn_core {p : Bool} {np nl : Nat} {body : MS} {N : List Str} {vs : List V} {Q : VK} {E : XK} {Wx : WX} (hN : N.length = np + nl) (h : spD R (fnD p np nl body) vs H Q E) :
    tDS R Wx (pinsP p) body { nx := fun _ H' => Q .non H', rt := Q } (L2.start N vs) H := by
  obtain ⟨as, I, F, sa, q⟩ := h
  unfold fnD at q
  by_cases hl : as.length = np
  · have hv : vs.length = np := by
      have := sa.len
      rw [List.length_map, List.length_map] at this
      omega
    have es : L2.start N vs = vs.map some ++ List.replicate nl none := by
      unfold L2.start
      rw [hN, hv, Nat.add_sub_cancel_left]
    rw [es]
    refine ⟨_, I, F, sa.more nl, ?_⟩
    rw [if_pos hl] at q
    -- the end with a value
    have fin : ∀ {d : D} {Γ' : Dl.Env} {v : V} {I' : Addr → Prop} {F' : Fps} {σ' : L2.St} {H' : Hp}, (match fin1 p d Γ' with
        | .ret d io => ∀ I' F' H' v, SA R I' F' io ((vs.map some).take io.length) H' → StpS [] I F (vs.map some) H I' F' (vs.map some) H' → RRep R F H I' F' H' v d → Q v H'
        | _ => False) → SA R I' F' Γ' σ' H' → StpS (pinsP p) I F (vs.map some ++ List.replicate nl none) H I' F' σ' H' → RRep R F H I' F' H' v d → Q v H' := by
      intro d Γ' v I' F' σ' H' q sa' s r
      have cut : ∀ (F2 : Fps), (∀ i a, F2 i a → ∃ j, F' j a) → StpS [] I F (vs.map some) H I' F2 (vs.map some) H' := fun F2 h2 => ⟨s.keep, fun i a x => by
        obtain ⟨j, y⟩ := h2 i a x
        exact s.fre j a y, s.ifr, s.imo, s.dom, fun _ _ => rfl⟩
      have less : ∀ (F2 : Fps), (∀ i a, F2 i a → ∃ j, F' j a) → RRep R F H I' F2 H' v d := fun F2 h2 => by
        unfold RRep at r ⊢
        split at r
        · obtain ⟨Fo, r1, r2⟩ := r
          refine ⟨Fo, r1, fun a x => ⟨⟨(r2 a x).1.1, fun j y => ?_, (r2 a x).1.2.2⟩, (r2 a x).2⟩⟩
          obtain ⟨l, z⟩ := h2 j a y
          exact (r2 a x).1.2.1 l z
        · exact r
      unfold fin1 at q
      cases p with
      | false =>
        rw [if_neg Bool.false_ne_true] at q
        exact q I' (fun _ _ => False) H' v sa'.nil (cut _ fun _ _ x => x.elim) (less _ fun _ _ x => x.elim)
      | true =>
        rw [if_pos rfl] at q
        cases e : Γ'[0]? with
        | none => rw [e] at q; exact q.elim
        | some o =>
          cases o with
          | none => rw [e] at q; exact q.elim
          | some c =>
            cases c <;> first | (rw [e] at q; exact q.elim) | skip
            rename_i c
            rw [e] at q
            have q : ∀ I' F' H' v, SA R I' F' [some (.own c)] ((vs.map some).take 1) H' → StpS [] I F (vs.map some) H I' F' (vs.map some) H' → RRep R F H I' F' H' v d → Q v H' := q
            have k := sa'.ok 0
            rw [e] at k
            obtain ⟨v0, ev, k⟩ := k
            have pin := s.pin 0 (by unfold pinsP; rw [if_pos rfl]; exact List.mem_cons_self)
            rw [pin] at ev
            have hv0 : (vs.map some).take 1 = [some v0] := by
              cases vs with
              | nil =>
                exfalso
                simp only [List.map_nil, List.nil_append, List.getElem?_replicate] at ev
                split at ev <;> simp at ev
              | cons w ws =>
                simp only [List.map_cons, List.cons_append, List.getElem?_cons_zero] at ev
                cases ev
                rfl
            have ev' : σ'[0]? = some (some v0) := pin.trans ev
            refine q I' _ H' v (by rw [hv0]; exact sa'.first e ev') (cut _ fun i a (x : i = 0 ∧ F' 0 a) => ⟨0, x.2⟩) (less _ fun i a (x : i = 0 ∧ F' 0 a) => ⟨0, x.2⟩)
    cases e : body (as.map some ++ List.replicate nl none) with
    | next Γ' =>
      rw [e] at q
      exact fun I' F' σ' H' sa' s => fin q sa' s (.of .non)
    | ret d Γ' =>
      rw [e] at q
      exact fun I' F' σ' H' v sa' s r => fin q sa' s r
    | brk Γ' => rw [e] at q; exact q.elim
    | cont Γ' => rw [e] at q; exact q.elim
    | exc x Γ' => rw [e] at q; exact q.elim
    | bad => rw [e] at q; exact q.elim
  · rw [if_neg hl] at q
    exact q.elim
end
/-! ### a def, where no repr runs -/
structure FnG (P : Program) (w : World) (K : PySem.W.Frag) (mg : Str → Option Value) (base : Heap) (CX : CXT) (n : Nat) (fa : Addr) (fd : FuncData) (ps : List Str) (sp : Sp) : Prop where
  len : ∀ vs H Q E, sp vs H Q E → vs.length = ps.length
  go : ∀ (A : Around) (fr : List PySem.Env) (s : Shared) (H : Hp) (args : Args) (us : List Value) (vs : List V) (Q : VK) (E : XK), Room n A → A.guards = some [] → Env0 P w K mg base A fr s H → BindsTo s fd args (ps.zip us) → Vals vs us → sp vs H Q E → codeAny (model P w) A (.call (.ref fa) args) (CR CX fr P w H s Q E) s
theorem FnG.of {P : Program} {w : World} {K : PySem.W.Frag} {mg : Str → Option Value} {base : Heap} {CX : CXT} {N ps : List Str} {n : Nat} {sp : Sp} {x qual : Str} {params : Arguments} {body : List Stmt} {scope : Scope} {dvs : List V} {kws : List (Str × V)} {fa : Addr} {fd : FuncData} (F : FunD K x qual params body scope dvs kws fa fd) (S : FnScope N ps scope)
    (len : ∀ vs H Q E, sp vs H Q E → vs.length = ps.length) (run : ∀ (cd : Value) (A : Around) (fr : List PySem.Env) (s : Shared) (H : Hp) (vs : List V) (Q : VK) (E : XK), Room n (A.deeper (envOfC qual scope s.heap.objs.size fa cd)) → (A.deeper (envOfC qual scope s.heap.objs.size fa cd)).guards = some [] → sp vs H Q E →
      ∃ t, PSs (cxOf CX P w K mg base N qual scope fa cd A fr s H E) body t ∧ t { nx := fun _ H' => Q .non H', rt := Q } (L2.start N vs) H) : FnG P w K mg base CX (n + 1) fa fd ps sp := by
  obtain ⟨oc, od, dV, kV, doc, pm, an, cd, ct, osl, rfl, lk, hcd, _, _⟩ := F.ex
  refine ⟨len, fun A fr s H args us vs Q E hr hgu e0 hb r hq => ?_⟩
  have hin : K.In s.heap := e0.mod.kin.keeps fun b o z => (e0.bs b o z).1
  have hlim : s.heap.NoLimit := e0.mod.nolimit.keeps fun b o z => (e0.bs b o z).1
  refine codeAny_call_function hr.depth (hin _ _ lk) rfl S.co S.gen rfl (PySem.W.codeRec_of hin hcd) (hb _ _ _ _ (wpAny_newFunctionEnv_cells S.kind (fun ⟨m, v⟩ hm => (S.par m (List.of_mem_zip hm).1).imp id fun z => ⟨z, PySem.W.cellsFrom_some _ _ _ (.inl z)⟩) fun env he s1 xc => ?_))
  subst he
  obtain ⟨t, ht, hz⟩ := run cd A fr s H vs Q E (hr.deeper _) hgu hq
  have J := inv_start (CX := CX) (E := E) S hr.hd e0 (len _ _ _ _ hq) r xc
  refine ⟨hlim.keeps xc.toInCall.keep, codeAny_func (wpAny_mono (ht.run [] s1 (L2.start N vs) H _ J hz) (fun fl s' hs => ?_) fun _ _ hs => hs)⟩
  cases fl with
  | next => exact let ⟨σ', H', J', q⟩ := hs; ⟨V.non, H', J'.os, J'.bare, J'.base, J'.hok, rfl, q⟩
  | ret u => exact let ⟨v, σ', H', J', rv, q⟩ := hs; ⟨v, H', J'.os, J'.bare, J'.base, J'.hok, rv, q⟩
  | brk => exact let ⟨_, _, _, q⟩ := hs; q.elim
  | cont => exact let ⟨_, _, _, q⟩ := hs; q.elim
theorem spD_len {R : RX} {p : Bool} {np nl : Nat} {body : MS} {ps : List Str} (hp : ps.length = np) : ∀ vs H Q E, spD R (fnD p np nl body) vs H Q E → vs.length = ps.length := fun vs H Q E ⟨as, I, F, sa, q⟩ => by
  have := sa.len
  rw [List.length_map, List.length_map] at this
  unfold fnD at q
  split at q
  · rename_i h
    split at h
    · omega
    · cases h
  · exact q.elim
section
variable {X : Cx} {CX : CXT} {n : Nat} {fa : Addr} {fd : FuncData} {ps ks : List Str} {sp : Sp} {dvs : List V} {ds : List Value} {E : XK} {x : Str} {q pos : Pos} {e : Expr} {es : List Expr} {kws : List Keyword} {t tk : TA} {g : List Value → List Value → List Value} {gV : List V → List V → List V} {m : Nat}
theorem runG {pins : List (Addr × Obj)} {σ : L2.St} {H : Hp} {s : Shared} {Q : VK} {args : Args} {us : List Value} {vs : List V} (G : FnG X.prog X.w X.K X.mg X.base CX n fa fd ps sp) (hr : Room n X.A) (hgu : X.A.guards = some []) (hx : Passes CX X E) (I : Inv X pins σ H s) (hb : us.length = ps.length → BindsTo s fd args (ps.zip us))
    (r : Vals vs us) (h : sp vs H Q E) : codeAny (model X.prog X.w) X.A (.call (.ref fa) args) (fun r s' => match r with
      | .ok (.ret u) => EP X pins σ Q u s'
      | .ok _ => False
      | .error e => X.xe e s') s := by
  refine codeAny_mono (G.go X.A X.stack s H args us vs Q E hr hgu I.env0 (hb (r.length.symm.trans (G.len _ _ _ _ h))) r h) fun z s' hz => ?_
  cases z with
  | error e => exact hx pins σ H s e s' I hz
  | ok fl => cases fl <;> first | exact I.after hz | exact hz.elim
/-- f(e, ..) -/
theorem pe_callG (G : FnG X.prog X.w X.K X.mg X.base CX n fa fd ps sp) (hr : Room n X.A) (hgu : X.A.guards = some []) (hg : Gl X x) (hm : X.mg x = some (.ref fa)) (hk : PySem.W.keepIn X.K (.ref fa) = true) (hb : Binds X.K fd ps ds) (hd : Vals dvs ds) (hx : Passes CX X E) (ha : PA X (e :: es) t)
    (hdb : (x == ("__debug__" : Str)) = false := by decide) (he : starEach (e :: es) X.env = (false, eval e X.env) :: starEach es X.env := by rfl) (hpl : (backTo pos (starEach es X.env)).any (·.1) = false := by rfl) : PE X (.Call (.Name x q) (e :: es) [] pos) (tCall sp dvs E t) := by
  refine ⟨fun pins s σ H Q I h => wpAny_Call_Name_kw (ld_glob I hg hm (PySem.W.callWith_K (h₀ := X.base) I.ok.mod.kin hk (thn (ha.run pos pins s σ H _ I h) fun us s1 ⟨vs, H1, I1, r, z⟩ => ⟨I1.kIn, ?_⟩) he hpl) hdb)⟩
  refine wpAny_call (codeAny_mono (runG (args := ⟨us, []⟩) G hr hgu hx I1 (fun hl => hb s1 us I1.kIn hl) (r.append hd) z) fun y s' hy => ?_)
  cases y with
  | error e => exact hy
  | ok fl => cases fl <;> first | exact hy | exact hy.elim
/-- f() -/
theorem pe_callG0 (G : FnG X.prog X.w X.K X.mg X.base CX n fa fd ps sp) (hr : Room n X.A) (hgu : X.A.guards = some []) (hg : Gl X x) (hm : X.mg x = some (.ref fa)) (hk : PySem.W.keepIn X.K (.ref fa) = true) (hb : Binds X.K fd ps ds) (hd : Vals dvs ds) (hx : Passes CX X E)
    (hdb : (x == ("__debug__" : Str)) = false := by decide) : PE X (.Call (.Name x q) [] [] pos) (tCall sp dvs E tNil) := by
  refine ⟨fun pins s σ H Q I h => wpAny_Call_Name_kw (ld_glob I hg hm (PySem.W.callWith_K0 I.kIn hk ?_) hdb)⟩
  refine wpAny_call (codeAny_mono (runG (args := ⟨[], []⟩) G hr hgu hx I (fun hl => hb s [] I.kIn hl) (by simpa using hd) h) fun y s' hy => ?_)
  cases y with
  | error e => exact hy
  | ok fl => cases fl <;> first | exact hy | exact hy.elim
/-- f(e, .., k = v, ..) -/
theorem pe_callGK (G : FnG X.prog X.w X.K X.mg X.base CX n fa fd ps sp) (hr : Room n X.A) (hgu : X.A.guards = some []) (hg : Gl X x) (hm : X.mg x = some (.ref fa)) (hk : PySem.W.keepIn X.K (.ref fa) = true) (hb : KBn X.K fd ps m ks g gV) (hx : Passes CX X E) (ha : PA X (e :: es) t) (hkw : PK X kws tk)
    (hall : (backToKw pos (keywordEach kws X.env)).all (·.1.isSome) = true := by rfl) (hks : (backToKw pos (keywordEach kws X.env)).filterMap (·.1) = ks := by rfl) (hdb : (x == ("__debug__" : Str)) = false := by decide) (he : starEach (e :: es) X.env = (false, eval e X.env) :: starEach es X.env := by rfl)
    (hpl : ((backTo pos (starEach (e :: es) X.env)).any (·.1) || (backToKw pos (keywordEach kws X.env)).any (·.1.isNone)) = false := by rfl) : PE X (.Call (.Name x q) (e :: es) kws pos) (tCallN m ks.length sp gV E t tk) := by
  refine ⟨fun pins s σ H Q I h => wpAny_Call_Name_kw (ld_glob I hg hm (PySem.W.callWith_KW (h₀ := X.base) I.ok.mod.kin hk hall (thn (ha.run pos pins s σ H _ I h) fun us s1 ⟨vs, H1, I1, r, z⟩ => thn (hkw.run pos pins s1 σ H1 _ I1 z) fun ws s2 ⟨zs, H2, I2, rz, l1, l2, z2⟩ => ⟨I2.kIn, ?_⟩) hpl he) hdb)⟩
  rw [hks]
  refine wpAny_call (codeAny_mono (runG (args := ⟨us, ks.zip ws⟩) G hr hgu hx I2 (fun _ => hb.to s2 us ws I2.kIn (r.length.symm.trans l1) (rz.length.symm.trans l2)) (hb.rel r rz) z2) fun y s' hy => ?_)
  cases y with
  | error e => exact hy
  | ok fl => cases fl <;> first | exact hy | exact hy.elim
/-- f(k = v, ..) -/
theorem pe_callGK0 (G : FnG X.prog X.w X.K X.mg X.base CX n fa fd ps sp) (hr : Room n X.A) (hgu : X.A.guards = some []) (hg : Gl X x) (hm : X.mg x = some (.ref fa)) (hk : PySem.W.keepIn X.K (.ref fa) = true) (hb : KBn X.K fd ps 0 ks g gV) (hx : Passes CX X E) (hkw : PK X kws tk)
    (hall : (backToKw pos (keywordEach kws X.env)).all (·.1.isSome) = true := by rfl) (hks : (backToKw pos (keywordEach kws X.env)).filterMap (·.1) = ks := by rfl) (hdb : (x == ("__debug__" : Str)) = false := by decide)
    (hpl : ((backTo pos (starEach [] X.env)).any (·.1) || (backToKw pos (keywordEach kws X.env)).any (·.1.isNone)) = false := by rfl) : PE X (.Call (.Name x q) [] kws pos) (tCallN 0 ks.length sp gV E tNil tk) := by
  refine ⟨fun pins s σ H Q I h => wpAny_Call_Name_kw (ld_glob I hg hm (PySem.W.callWith_KW0 (h₀ := X.base) I.ok.mod.kin hk hall (thn (hkw.run pos pins s σ H _ I h) fun ws s2 ⟨zs, H2, I2, rz, l1, l2, z2⟩ => ⟨I2.kIn, ?_⟩) hpl) hdb)⟩
  rw [hks]
  refine wpAny_call (codeAny_mono (runG (args := ⟨[], ks.zip ws⟩) G hr hgu hx I2 (fun _ => hb.to s2 [] ws I2.kIn rfl (rz.length.symm.trans l2)) (hb.rel .nil rz) z2) fun y s' hy => ?_)
  cases y with
  | error e => exact hy
  | ok fl => cases fl <;> first | exact hy | exact hy.elim
end
end Dl
/-! DL13: calls in data. -/
namespace Dl
open PySem PySem.Spec PyProof.Rows L2
/-- a call whose arguments are values: they are borrowed by the result -/
def mCall (out : List D → OutF) (fa : M (List D)) : M D := fun Γ => (fa Γ).bind fun as Γ1 => match out as with
  | .ret d [] => .ok d Γ1
  | _ => .bad
/-- a call whose first argument is the own container of slot j -/
def mCallO (j : Nat) (B : List Nat) (out : List D → OutF) (fa : M (List D)) : M D := fun Γ => if isOwn Γ j = true then (fa Γ).bind fun as Γ1 => match (settles as B Γ1)[j]? with
  | some (some (.own c)) => match out (.own c :: as) with
    | .ret d [some (.own c')] => .ok d ((settles as B Γ1).set j (some (.own c')))
    | _ => .bad
  | _ => .bad else .bad
section
variable {X : Cx} {R : RX} {Wx : WX} {W B : List Nat} {I I' I1 : Addr → Prop} {F F' F1 : Fps} {Γ Γ1 : Dl.Env} {σ σ' : L2.St} {H H' H1 : Hp} {out : List D → OutF} {fa : M (List D)} {E : XK}
theorem SA.args {vs : List V} {as : List D} (sa : SA R I F Γ σ H) (r : Reps R (J I F B) H vs as) : SA R (J I F B) (fun _ _ => False) (as.map some) (vs.map some) H := by
  refine ⟨by rw [List.length_map, List.length_map, r.length], fun i => ?_, fun _ _ _ x => x.elim, fun _ _ x => x.elim, (sa.frz (B := B)).itr, fun _ _ x => x.elim⟩
  rw [List.getElem?_map, List.getElem?_map]
  cases e : as[i]? with
  | none => exact fun _ x => x
  | some d =>
    obtain ⟨v, e1, q⟩ := r.get e
    rw [e1]
    exact .data q rfl fun _ x => x
/-- behind a call that borrows from B -/
theorem SA.called {σ1 σ2 σ3 : L2.St} (sa : SA R I F Γ σ H) (sa' : SA R I' F' Γ1 σ3 H') (s : StpS [] (J I F B) (fun _ _ => False) σ1 H I' (fun _ _ => False) σ2 H') {W : List Nat} :
    SA R (fun a => I' a ∧ ∀ j, ¬ F j a) F Γ σ H' ∧ Stp W I F H (fun a => I' a ∧ ∀ j, ¬ F j a) F H' := by
  have sm : Same H H' := fun a o e => s.keep a o e fun _ x => x
  have hi : ∀ a, I a → I' a ∧ ∀ j, ¬ F j a := fun a x => ⟨s.imo a (.inl x), fun j y => sa.apt j a y x⟩
  exact ⟨sa.grow sm hi (fun a x => by
    rcases s.ifr a x.1 with (y | ⟨j, _, y⟩) | ⟨_, y⟩ | y
    · exact .inl y
    · exact (x.2 j y).elim
    · exact y.elim
    · exact .inr y) fun a x => sa'.itr a x.1, .grow sm hi fun a x => by
    rcases s.ifr a x.1 with (y | ⟨j, _, y⟩) | ⟨_, y⟩ | y
    · exact .inl y
    · exact (x.2 j y).elim
    · exact y.elim
    · exact .inr y⟩
theorem RRep.borrow {σ1 σ2 : L2.St} {v : V} {d : D} {H0 : Hp} {F0 : Fps} {W : List Nat} (r : RRep R (fun _ _ => False) H I' (fun _ _ => False) H' v d) (sa : SA R I F Γ σ H) (s : StpS [] (J I F B) (fun _ _ => False) σ1 H I' (fun _ _ => False) σ2 H') (hdom : ∀ a, H a = none → H0 a = none) :
    XR R B W F0 H0 (fun a => I' a ∧ ∀ j, ¬ F j a) F H' v d := by
  have sub : ∀ a, I' a → J (fun a => I' a ∧ ∀ j, ¬ F j a) F B a := fun a x => by
    by_cases h : ∃ j, F j a
    · obtain ⟨j, hj⟩ := h
      rcases s.ifr a x with (y | ⟨l, hl, y⟩) | ⟨_, y⟩ | y
      · exact (sa.apt j a hj y).elim
      · exact .inr ⟨l, hl, y⟩
      · exact y.elim
      · obtain ⟨o, e, _⟩ := sa.trk j a hj
        rw [y] at e; cases e
    · exact .inl ⟨x, fun j y => h ⟨j, y⟩⟩
  unfold RRep at r
  split at r
  · obtain ⟨Fo, r1, r2⟩ := r
    refine ⟨Fo, r1.ext .refl sub fun _ _ _ e => e, fun a x => ⟨⟨fun y => (r2 a x).1.1 y.1, fun j y => ?_, (r2 a x).1.2.2⟩, .inr ?_⟩⟩
    · rcases (r2 a x).2 with ⟨_, z⟩ | z
      · exact z
      · obtain ⟨o, e, _⟩ := sa.trk j a y
        rw [z] at e; cases e
    · rcases (r2 a x).2 with ⟨_, z⟩ | z
      · exact z.elim
      · exact hdom a z
  · exact .of (r.reg sub)
theorem call_core {sp : Sp} {dvs : List V} {σ : L2.St} {H : Hp} {Q : VK} (hsp : ∀ vs H Q, spD R out vs H Q E → sp (vs ++ dvs) H Q E) (h : tDX R Wx (mCall out fa) B W σ H Q) : tCall sp dvs E (tDA R Wx fa B W) σ H Q := by
  obtain ⟨Γ, I, F, sa, g⟩ := h
  refine ⟨Γ, I, F, sa, ?_⟩
  unfold mCall at g
  cases e1 : fa Γ with
  | bad => rw [e1] at g; exact g
  | exc x Γ1 => rw [e1] at g; exact g
  | ok as Γ1 =>
    rw [e1] at g
    intro I1 F1 H1 sa1 s1 vs rv
    refine hsp vs H1 Q ⟨as, _, _, sa1.args rv, ?_⟩
    have g : Go R Wx W I F σ H (match out as with
      | .ret d [] => .ok d Γ1
      | _ => .bad) (kX R B W F H Q) := g
    cases e2 : out as with
    | bad => simp only [e2] at g; exact g.elim
    | exc x => simp only [e2] at g; exact g.elim
    | ret d io =>
      cases io with
      | cons o l => simp only [e2] at g; exact g.elim
      | nil =>
        simp only [e2] at g
        intro I' F' H' v sa' s r
        have f0 : F' = fun _ _ => False := funext fun j => funext fun a => propext ⟨fun x => (sa'.ok j) a x, fun x => x.elim⟩
        subst f0
        obtain ⟨sa2, s2⟩ := sa1.called (W := W) sa' s
        exact g _ _ H' sa2 (s1.trans s2 (fun _ h => h) fun _ h => h) v (r.borrow sa1 s s1.dom)
/-- the slots but j, and j's container as the callee left it -/
theorem callO_core {sp : Sp} {dvs : List V} {j : Nat} {σ : L2.St} {H : Hp} {Q : VK} (hsp : ∀ vs H Q, spD R out vs H Q E → sp (vs ++ dvs) H Q E) (h : tDX R Wx (mCallO j B out fa) [] (j :: (B ++ W)) σ H Q) : tCall sp dvs E (tCons (tVar j) (tDA R Wx fa B W)) σ H Q := by
  obtain ⟨Γ, I, F, sa, g⟩ := h
  unfold mCallO at g
  cases e0 : isOwn Γ j with
  | false => rw [e0, if_neg Bool.false_ne_true] at g; exact g.elim
  | true =>
    rw [e0, if_pos rfl] at g
    obtain ⟨v0, ev⟩ : ∃ v, σ[j]? = some (some v) := by
      have k := sa.ok j
      unfold isOwn at e0
      split at e0
      · rename_i c e
        rw [e] at k
        obtain ⟨v, ev, _⟩ := k
        exact ⟨v, ev⟩
      · cases e0
    refine ⟨v0, ev, Γ, I, F, sa, ?_⟩
    cases e1 : fa Γ with
    | bad => rw [e1] at g; exact g
    | exc x Γ1 =>
      rw [e1] at g
      exact fun I' F' H' cls dx sa s r => g I' F' H' cls dx sa (s.mono fun i h => List.mem_cons_of_mem _ (List.mem_append_right _ h)) r
    | ok as Γ1 =>
      rw [e1] at g
      intro I1 F1 H1 sa1 s1 vs rv
      obtain ⟨I2, F2, sa2, r2, i12, i21, f21, f12⟩ := settles_at sa1 rv
      have s12 : Stp (j :: (B ++ W)) I F H I2 F2 H1 := (s1.mono fun i h => List.mem_cons_of_mem _ (List.mem_append_right _ h)).trans (W2 := j :: (B ++ W)) ⟨fun _ _ h _ => h, fun i hi a x => f12 i a (fun hb => hi (List.mem_cons_of_mem _ (List.mem_append_left _ hb))) x, fun i a x => .inr (.inl (f21 i a x)), fun a x => by
        rcases i21 a x with y | ⟨i, hi, y⟩
        · exact .inl y
        · exact .inr (.inl ⟨i, List.mem_cons_of_mem _ (List.mem_append_left _ hi), y⟩), i12, fun _ h => h⟩ (fun _ h => h) fun _ h => h
      have g : Go R Wx (j :: (B ++ W)) I F σ H (match (settles as B Γ1)[j]? with
        | some (some (.own c)) => match out (.own c :: as) with
          | .ret d [some (.own c')] => .ok d ((settles as B Γ1).set j (some (.own c')))
          | _ => .bad
        | _ => .bad) (kX R [] (j :: (B ++ W)) F H Q) := g
      have k := sa2.ok j
      cases e3 : (settles as B Γ1)[j]? with
      | none => simp only [e3] at g; exact g.elim
      | some o =>
        cases o with
        | none => simp only [e3] at g; exact g.elim
        | some c =>
          cases c <;> first | (simp only [e3] at g; exact g.elim) | skip
          rename_i c
          simp only [e3] at g
          rw [e3] at k
          obtain ⟨v0', ev', k⟩ := k
          rw [ev] at ev'
          cases ev'
          have hjl : j < (settles as B Γ1).length := (List.getElem?_eq_some_iff.mp e3).1
          -- the callee's slots
          have saC : SA R I2 (fun i a => i = 0 ∧ F2 j a) ((.own c :: as).map some) ((v0 :: vs).map some) H1 := by
            refine ⟨by simp [r2.length], fun i => ?_, fun i l a x y => x.1.trans y.1.symm, fun i a x => sa2.apt j a x.2, sa2.itr, fun i a x => sa2.trk j a x.2⟩
            cases i with
            | zero =>
              have e : (fun a => (0 : Nat) = 0 ∧ F2 j a) = F2 j := funext fun a => propext ⟨fun x => x.2, fun x => ⟨rfl, x⟩⟩
              refine ⟨v0, rfl, ?_⟩
              show ORep R I2 H1 v0 c fun a => (0 : Nat) = 0 ∧ F2 j a
              rw [e]
              exact k
            | succ i =>
              show SlotOk R I2 H1 (as.map some)[i]? (vs.map some)[i]? _
              rw [List.getElem?_map, List.getElem?_map]
              cases e : as[i]? with
              | none => exact fun a x => nomatch x.1
              | some d =>
                obtain ⟨v, e1, q⟩ := r2.get e
                rw [e1]
                exact .data q rfl fun a x => nomatch x.1
          refine hsp (v0 :: vs) H1 Q ⟨.own c :: as, I2, _, saC, ?_⟩
          cases e4 : out (.own c :: as) with
          | bad => simp only [e4] at g; exact g.elim
          | exc x => simp only [e4] at g; exact g.elim
          | ret d io =>
            have hio : ∃ c', io = [some (.own c')] := by
              simp only [e4] at g
              split at g
              · rename_i e5
                cases e5
                exact ⟨_, rfl⟩
              · exact g.elim
            obtain ⟨c', rfl⟩ := hio
            simp only [e4] at g
            intro I' F' H' v sa' s r
            have sa' : SA R I' F' [some (.own c')] [some v0] H' := sa'
            have k' : ∃ w, some (some v0) = some (some w) ∧ ORep R I' H' w c' (F' 0) := sa'.ok 0
            obtain ⟨w, ew, k'⟩ := k'
            cases ew
            have F's : ∀ i a, F' i a → i = 0 := fun i a x => by
              cases i with
              | zero => rfl
              | succ i => exact ((sa'.ok (i + 1)) a x).elim
            have kp : ∀ i a o, i ≠ j → F2 i a → H1 a = some o → H' a = some o := fun i a o hi x e => s.keep a o e fun l y => hi (sa2.dis i j a x y.2)
            have kI : ∀ a o, I2 a → H1 a = some o → H' a = some o := fun a o x e => s.keep a o e fun l y => sa2.apt j a y.2 x
            have kT : ∀ a o, H1 a = some o → ((∃ xs, o = .tup xs) ∨ ∃ ob u, o = .frz ob u) → H' a = some o := fun a o e t => s.keep a o e fun l y => by
              obtain ⟨o', e', n1, n2⟩ := sa2.trk j a y.2
              rw [e] at e'; cases e'
              rcases t with ⟨xs, t⟩ | ⟨ob, u, t⟩
              · exact n1 _ t
              · exact n2 _ _ t
            have ex : Ext I2 H1 H' := ⟨kI, fun a xs e => kT a _ e (.inl ⟨_, rfl⟩), fun a ob u e => kT a _ e (.inr ⟨_, _, rfl⟩)⟩
            have nI : ∀ i a, i ≠ j → F2 i a → ¬ I' a := fun i a hi x y => by
              rcases s.ifr a y with z | ⟨l, z⟩ | z
              · exact sa2.apt i a x z
              · exact hi (sa2.dis i j a x z.2)
              · obtain ⟨o, e, _⟩ := sa2.trk i a x
                rw [z] at e; cases e
            have nF : ∀ i a, i ≠ j → F2 i a → ¬ F' 0 a := fun i a hi x y => by
              rcases s.fre 0 a y with ⟨l, z⟩ | z
              · exact hi (sa2.dis i j a x z.2)
              · obtain ⟨o, e, _⟩ := sa2.trk i a x
                rw [z] at e; cases e
            have sa3 : SA R I' (fun i a => (i ≠ j ∧ F2 i a) ∨ (i = j ∧ F' 0 a)) ((settles as B Γ1).set j (some (.own c'))) σ H' := by
              refine ⟨by rw [List.length_set]; exact sa2.len, fun i => ?_, fun i l a x y => ?_, fun i a x => ?_, sa'.itr, fun i a x => ?_⟩
              · by_cases hi : i = j
                · subst hi
                  rw [List.getElem?_set_self hjl, ev]
                  refine ⟨v0, rfl, ?_⟩
                  have e : (fun a => (i ≠ i ∧ F2 i a) ∨ (i = i ∧ F' 0 a)) = F' 0 := funext fun a => propext ⟨fun x => by
                    rcases x with x | x
                    · exact (x.1 rfl).elim
                    · exact x.2, fun x => .inr ⟨rfl, x⟩⟩
                  rw [e]
                  exact k'
                · rw [List.getElem?_set_ne (Ne.symm hi)]
                  have := ((sa2.ok i).ext ex fun a o x => kp i a o hi x).reg (fun a => s.imo a)
                  refine this.iff fun a => ⟨fun x => .inl ⟨hi, x⟩, fun x => ?_⟩
                  rcases x with x | x
                  · exact x.2
                  · exact (hi x.1).elim
              · rcases x with x | x <;> rcases y with y | y
                · exact sa2.dis i l a x.2 y.2
                · exact (nF i a x.1 x.2 y.2).elim
                · exact (nF l a y.1 y.2 x.2).elim
                · rw [x.1, y.1]
              · rcases x with x | x
                · exact nI i a x.1 x.2
                · exact sa'.apt 0 a x.2
              · rcases x with x | x
                · obtain ⟨o, e, t⟩ := sa2.trk i a x.2
                  exact ⟨o, kp i a o x.1 x.2 e, t⟩
                · exact sa'.trk 0 a x.2
            have stp : Stp (j :: (B ++ W)) I2 F2 H1 I' (fun i a => (i ≠ j ∧ F2 i a) ∨ (i = j ∧ F' 0 a)) H' := ⟨fun a o e n => s.keep a o e fun l y => n j List.mem_cons_self y.2, fun i hi a x => .inl ⟨fun z => hi (by rw [z]; exact List.mem_cons_self), x⟩, fun i a x => by
              rcases x with x | x
              · exact .inr (.inl x.2)
              · rcases s.fre 0 a x.2 with ⟨l, z⟩ | z
                · exact .inl ⟨j, List.mem_cons_self, z.2⟩
                · exact .inr (.inr z), fun a x => by
              rcases s.ifr a x with z | ⟨l, z⟩ | z
              · exact .inl z
              · exact .inr (.inl ⟨j, List.mem_cons_self, z.2⟩)
              · exact .inr (.inr z), s.imo, s.dom⟩
            have tot : Stp (j :: (B ++ W)) I F H I' (fun i a => (i ≠ j ∧ F2 i a) ∨ (i = j ∧ F' 0 a)) H' := s12.trans stp (fun _ h => h) fun _ h => h
            refine g I' _ H' sa3 tot v ?_
            unfold RRep at r
            split at r
            · obtain ⟨Fo, r1, q2⟩ := r
              refine ⟨Fo, r1.ext .refl (fun _ => J.of) fun _ _ _ e => e, fun a x => ⟨⟨(q2 a x).1.1, fun i y => ?_, (q2 a x).1.2.2⟩, ?_⟩⟩
              · rcases y with y | y
                · rcases (q2 a x).2 with ⟨l, z⟩ | z
                  · exact y.1 (sa2.dis i j a y.2 z.2)
                  · obtain ⟨o, e, _⟩ := sa2.trk i a y.2
                    rw [z] at e; cases e
                · exact (q2 a x).1.2.1 0 y.2
              · rcases (q2 a x).2 with ⟨l, z⟩ | z
                · rcases s12.fre j a z.2 with y | y | y
                  · exact .inl y
                  · exact .inl ⟨j, List.mem_cons_self, y⟩
                  · exact .inr y
                · exact .inr (s12.dom a z)
            · exact .of (r.reg fun _ => J.of)
end
end Dl
/-! DL14: the rules of calls; a law's end. -/
namespace Dl
open PySem PySem.Spec PyProof.Rows L2
abbrev E0 : XK := fun _ _ _ => False
abbrev CXn : CXT := fun _ _ _ _ _ _ => False
theorem passN {X : Cx} {E : XK} : Passes CXn X E := fun _ _ _ _ _ _ _ h => h.elim
theorem spD0 {R : RX} {out : List D → OutF} : ∀ vs H Q, spD R out vs H Q E0 → spD R out (vs ++ []) H Q E0 := fun vs H Q h => by
  rw [List.append_nil]
  exact h
section
variable {X : Cx} {R : RX} {Wx : WX} {W B : List Nat} {n : Nat} {fa : Addr} {fd : FuncData} {ps ks : List Str} {x : Str} {q pos : Pos} {a e : Expr} {es : List Expr} {kws : List Keyword} {out : List D → OutF} {f fk : M (List D)}
/-- what every call of a def wants -/
structure CallOk (X : Cx) (R : RX) (n : Nat) (x : Str) (fa : Addr) (fd : FuncData) (ps : List Str) (out : List D → OutF) : Prop where
  G : FnG X.prog X.w X.K X.mg X.base CXn n fa fd ps (spD R out)
  hr : Room n X.A
  gu : X.A.guards = some []
  m : X.mg x = some (.ref fa)
  kp : PySem.W.keepIn X.K (.ref fa) = true
theorem dx_call (C : CallOk X R n x fa fd ps out) (hg : Gl X x) (hb : Binds X.K fd ps []) (ha : PA X (e :: es) (tDA R Wx f B W)) (hdb : (x == ("__debug__" : Str)) = false := by decide) (he : starEach (e :: es) X.env = (false, eval e X.env) :: starEach es X.env := by rfl) (hpl : (backTo pos (starEach es X.env)).any (·.1) = false := by rfl) :
    PE X (.Call (.Name x q) (e :: es) [] pos) (tDX R Wx (mCall out f) B W) := PE.imp (pe_callG C.G C.hr C.gu hg C.m C.kp hb .nil passN ha hdb he hpl) fun σ H Q h => call_core spD0 h
theorem dx_callO {j : Nat} (C : CallOk X R n x fa fd ps out) (hg : Gl X x) (hb : Binds X.K fd ps []) (h0 : PE X a (tVar j)) (ha : PA X es (tDA R Wx f B W)) (hdb : (x == ("__debug__" : Str)) = false := by decide) (he : starEach (a :: es) X.env = (false, eval a X.env) :: starEach es X.env := by rfl) (hpl : (backTo pos (starEach es X.env)).any (·.1) = false := by rfl) :
    PE X (.Call (.Name x q) (a :: es) [] pos) (tDX R Wx (mCallO j B out f) [] (j :: (B ++ W))) := PE.imp (pe_callG C.G C.hr C.gu hg C.m C.kp hb .nil passN (pa_cons h0 ha he) hdb he hpl) fun σ H Q h => callO_core spD0 h
/-- no arguments -/
theorem dx_call0 (C : CallOk X R n x fa fd ps out) (hg : Gl X x) (hb : Binds X.K fd ps []) (hdb : (x == ("__debug__" : Str)) = false := by decide) : PE X (.Call (.Name x q) [] [] pos) (tDX R Wx (mCall out mNil) [] []) :=
  PE.imp (pe_callG0 C.G C.hr C.gu hg C.m C.kp hb .nil passN hdb) fun σ H Q h => (show tCall (spD R out) [] E0 tNil σ H Q from by
    obtain ⟨Γ, I, F, sa, g⟩ := call_core (fa := mNil) (Wx := Wx) (B := []) (W := []) (E := E0) spD0 h
    exact g.here sa [] .nil)
/-! keywords -/
def mApp (g : List D → List D → List D) (fa fk : M (List D)) : M (List D) := fun Γ => (fa Γ).bind fun as Γ1 => (fk Γ1).bind fun zs Γ2 => .ok (g as zs) Γ2
theorem dk_nil : PK X [] (tDA R Wx mNil [] []) := ⟨fun pos pins s σ H Q I ⟨Γ, J, F, sa, g⟩ => pk_nil.run pos pins s σ H Q I (g.here sa [] .nil)⟩
variable {Wa Wb Ba Bb : List Nat} {nm : Option Str} {kpos : Pos}
theorem dk_cons {fe : M D} (ha : PE X e (tD R Wx fe Ba Wa)) (hr : PK X kws (tDA R Wx fk Bb Wb)) (hd : ∀ i ∈ Ba, i ∉ Wb := by decide) : PK X (⟨nm, e, kpos⟩ :: kws) (tDA R Wx (mCons fe fk) (Ba ++ Bb) (Wa ++ Wb)) := by
  constructor
  intro pos pins s σ H Q I ⟨Γ, J0, F, sa, g⟩
  refine (pk_cons ha hr).run pos pins s σ H Q I ⟨Γ, J0, F, sa, (g.bind (W1 := Wa) (W2 := Wb) (fun i h => List.mem_append_left _ h) (fun i h => List.mem_append_right _ h)).imp fun x Γ1 I1 F1 H1 sa1 s1 g1 v rv => ?_⟩
  refine ⟨Γ1, I1, F1, sa1, (g1.bind (W1 := Wb) (W2 := []) (fun i h => h) (fun i h => nomatch h)).imp fun y Γ2 I2 F2 H2 sa2 s2 g2 u ru => ?_⟩
  exact g2.here sa2 _ (.cons ((rv.stp sa1 s2 hd).reg (J.mono fun i h => List.mem_append_left _ h)) (ru.reg (J.mono fun i h => List.mem_append_right _ h)))
/-- g puts positional values and keywords' values in the parameters' order -/
structure Perm (R : RX) (m l : Nat) (gV : List V → List V → List V) (gD : List D → List D → List D) : Prop where
  r : ∀ (I : Addr → Prop) (H : Hp) (vs zs : List V) (as cs : List D), vs.length = m → zs.length = l → Reps R I H vs as → Reps R I H zs cs → Reps R I H (gV vs zs) (gD as cs)
theorem callK_core {sp : Sp} {gV : List V → List V → List V} {gD : List D → List D → List D} {m l : Nat} {σ : L2.St} {H : Hp} {Q : VK} {fa : M (List D)} (pm : Perm R m l gV gD) (hd : ∀ i ∈ Ba, i ∉ Wb) (hl : ∀ Γ as Γ', fa Γ = .ok as Γ' → as.length = m) (hl2 : ∀ Γ as Γ', fk Γ = .ok as Γ' → as.length = l)
    (h : tCall sp [] E0 (tDA R Wx (mApp gD fa fk) (Ba ++ Bb) (Wa ++ Wb)) σ H Q) : tCallN m l sp gV E0 (tDA R Wx fa Ba Wa) (tDA R Wx fk Bb Wb) σ H Q := by
  obtain ⟨Γ, I, F, sa, g⟩ := h
  refine ⟨Γ, I, F, sa, ?_⟩
  have g0 := g.bind (W1 := Wa) (W2 := Wb) (fun i h => List.mem_append_left _ h) (fun i h => List.mem_append_right _ h)
  cases e1 : fa Γ with
  | bad => rw [e1] at g0; exact g0
  | exc x Γ1 => rw [e1] at g0; exact g0
  | ok as Γ1 =>
    rw [e1] at g0
    intro I1 F1 H1 sa1 s1 vs rv
    refine ⟨Γ1, I1, F1, sa1, ?_⟩
    have g1 := (g0 I1 F1 H1 sa1 s1).bind (W1 := Wb) (W2 := []) (fun i h => h) (fun i h => nomatch h)
    cases e2 : fk Γ1 with
    | bad => rw [e2] at g1; exact g1
    | exc x Γ2 => rw [e2] at g1; exact g1
    | ok zs Γ2 =>
      rw [e2] at g1
      intro I2 F2 H2 sa2 s2 us ru
      have g2 := (g1 I2 F2 H2 sa2 s2).here sa2 (gV vs us) (pm.r _ _ _ _ _ _ (rv.length.trans (hl _ _ _ e1)) (ru.length.trans (hl2 _ _ _ e2)) ((rv.stp sa1 s2 hd).reg (J.mono fun i h => List.mem_append_left _ h)) (ru.reg (J.mono fun i h => List.mem_append_right _ h)))
      have g2 : sp (gV vs us ++ []) H2 Q E0 := g2
      rw [List.append_nil] at g2
      exact ⟨rv.length.trans (hl _ _ _ e1), ru.length.trans (hl2 _ _ _ e2), g2⟩
/-- how many -/
def Cnt (m : Nat) (f : M (List D)) : Prop := ∀ Γ as Γ', f Γ = .ok as Γ' → as.length = m
theorem cnt_nil : Cnt 0 mNil := fun Γ as Γ' h => by cases h; rfl
theorem cnt_cons {m : Nat} {fe : M D} {fa : M (List D)} (h : Cnt m fa) : Cnt (m + 1) (mCons fe fa) := fun Γ as Γ' e => by
  unfold mCons at e
  cases e1 : fe Γ with
  | bad => rw [e1] at e; cases e
  | exc x Γ1 => rw [e1] at e; cases e
  | ok d Γ1 =>
    rw [e1] at e
    have e : (fa Γ1).bind (fun ds Γ2 => Out.ok (d :: ds) Γ2) = .ok as Γ' := e
    cases e2 : fa Γ1 with
    | bad => rw [e2] at e; cases e
    | exc x Γ2 => rw [e2] at e; cases e
    | ok ds Γ2 =>
      rw [e2] at e
      cases e
      exact congrArg Nat.succ (h _ _ _ e2)
theorem dx_callK {m l : Nat} {fa' : M (List D)} {g : List Value → List Value → List Value} {gV : List V → List V → List V} {gD : List D → List D → List D} (C : CallOk X R n x fa fd ps out) (hg : Gl X x) (hb : KBn X.K fd ps m ks g gV) (pm : Perm R m l gV gD) (hl : ks.length = l) (c1 : Cnt m fa') (c2 : Cnt l fk) (ha : PA X (e :: es) (tDA R Wx fa' Ba Wa)) (hkw : PK X kws (tDA R Wx fk Bb Wb)) (hd : ∀ i ∈ Ba, i ∉ Wb := by decide)
    (hall : (backToKw pos (keywordEach kws X.env)).all (·.1.isSome) = true := by rfl) (hks : (backToKw pos (keywordEach kws X.env)).filterMap (·.1) = ks := by rfl) (hdb : (x == ("__debug__" : Str)) = false := by decide) (he : starEach (e :: es) X.env = (false, eval e X.env) :: starEach es X.env := by rfl)
    (hpl : ((backTo pos (starEach (e :: es) X.env)).any (·.1) || (backToKw pos (keywordEach kws X.env)).any (·.1.isNone)) = false := by rfl) : PE X (.Call (.Name x q) (e :: es) kws pos) (tDX R Wx (mCall out (mApp gD fa' fk)) (Ba ++ Bb) (Wa ++ Wb)) := by
  subst hl
  exact PE.imp (pe_callGK C.G C.hr C.gu hg C.m C.kp hb passN ha hkw hall hks hdb he hpl) fun σ H Q h => callK_core pm hd c1 c2 (call_core spD0 h)
theorem dx_callK0 {l : Nat} {g : List Value → List Value → List Value} {gV : List V → List V → List V} {gD : List D → List D → List D} (C : CallOk X R n x fa fd ps out) (hg : Gl X x) (hb : KBn X.K fd ps 0 ks g gV) (pm : Perm R 0 l gV gD) (hl : ks.length = l) (c2 : Cnt l fk) (hkw : PK X kws (tDA R Wx fk Bb Wb))
    (hall : (backToKw pos (keywordEach kws X.env)).all (·.1.isSome) = true := by rfl) (hks : (backToKw pos (keywordEach kws X.env)).filterMap (·.1) = ks := by rfl) (hdb : (x == ("__debug__" : Str)) = false := by decide)
    (hpl : ((backTo pos (starEach [] X.env)).any (·.1) || (backToKw pos (keywordEach kws X.env)).any (·.1.isNone)) = false := by rfl) : PE X (.Call (.Name x q) [] kws pos) (tDX R Wx (mCall out (mApp gD mNil fk)) Bb Wb) := by
  subst hl
  refine PE.imp (pe_callGK0 (E := E0) C.G C.hr C.gu hg C.m C.kp hb passN hkw hall hks hdb hpl) fun σ H Q h => ?_
  have z : tCallN 0 ks.length (spD R out) gV E0 (tDA R Wx mNil [] []) (tDA R Wx fk Bb Wb) σ H Q := callK_core pm (fun i h => nomatch h) cnt_nil c2 (call_core spD0 h)
  obtain ⟨Γ, I, F, sa, g⟩ := z
  exact g.here sa [] .nil
/-- binding by names, no defaults -/
theorem kbn_of {K : PySem.W.Frag} {qual : Str} {params : Arguments} {body : List Stmt} {scope : Scope} {m : Nat} {g : List Value → List Value → List Value} {gV : List V → List V → List V} (F : FunD K x qual params body scope [] [] fa fd)
    (h : ∀ (kV doc pm : Value) (an : Option Addr) (cdv ct : Value) (us ws : List Value), us.length = m → ws.length = ks.length → bindArgs (PySem.W.fnOf x qual params body scope .none kV doc pm an cdv ct) ⟨us, ks.zip ws⟩ = pure (ps.zip (g us ws)))
    (rel : ∀ {vs : List V} {us : List Value} {zs : List V} {ws : List Value}, Vals vs us → Vals zs ws → Vals (gV vs zs) (g us ws)) : KBn K fd ps m ks g gV := by
  obtain ⟨oc, od, dV, kV, doc, pm, an, cdv, ct, osl, rfl, lk, hcd, hD, hK⟩ := F.ex
  rcases hD with ⟨_, rfl⟩ | ⟨e, _⟩
  · exact ⟨fun s us ws _ l1 l2 => .of_eq (h kV doc pm an cdv ct us ws l1 l2), rel⟩
  · exact absurd rfl e
end
/-! ### a law's end -/
theorem callL {P : Program} {w : World} {K : PySem.W.Frag} {mg mb : Str → Option Value} {n : Nat} {fa a : Addr} {fd : FuncData} {x : Str} {s₁ : Shared} {vs : List Value} {ns : List Int} {R : RX} {out : List D → OutF} (hRK : R.K = K)
    (kin : K.In s₁.heap) (hmg : s₁.heap.Ns mainGlobals mg) (hmb : s₁.heap.Ns builtinsNs mb) (hbb : ∀ x : Str, x ≠ "__name__" → mb x = bootBuiltins x) (hlim : s₁.heap.NoLimit) (hgen : s₁.gens = #[])
    (hobj : s₁.heap.get? a = some { cls := .type "list", data := .seq vs.toArray }) (hints : IntsAre vs ns) (hlen : ns.length ≤ sizeLine) (hroom : Room n callerA)
    (G : ∀ base : Heap, K.In base → base.Ns mainGlobals mg → FnG P w K mg base CXn n fa fd [x] (spD R out)) (hbind : ∀ (s : Shared) (u : Value), BindsTo s fd ⟨[u], []⟩ [(x, u)])
    (hout : ∃ io, out [.scr ns] = .ret (.bl true) io) :
    codeAny (model P w) callerA (.call (.ref fa) ⟨[.ref a], []⟩) (fun r s' => r = .ok (.ret (.bool true)) ∧ OldK s₁.heap s'.heap ∧ s'.os = s₁.os ∧ AllBare s'.gens) s₁ := by
  have rv := vals_ints hints
  have hsz := hints.length
  -- H tells of the script alone
  have main : ∀ H : Hp, (∀ b, H b = none ∨ (b = a ∧ ∃ o xs, H b = some (.frz o (.lst xs)))) → FAt K H a (ns.map V.int) → HOk P w H s₁.heap → (H a ≠ none → K.lookup a = none) →
      codeAny (model P w) callerA (.call (.ref fa) ⟨[.ref a], []⟩) (fun r s' => r = .ok (.ret (.bool true)) ∧ OldK s₁.heap s'.heap ∧ s'.os = s₁.os ∧ AllBare s'.gens) s₁ := by
    intro H only fat ok nk
    have isA : ∀ {b : Addr}, H b ≠ none → b = a := fun {b} z => (only b).elim (fun y => (z y).elim) fun y => y.1
    have hid : ∀ {b : Addr} {o : Obj}, s₁.heap.get? b = some o → b ≠ a → (hidT s₁.heap H).get? b = some o := fun {b o} z ne => hidT_get z (Decidable.byContradiction fun y => ne (isA y))
    have nsH : ∀ {b : Addr} {m : Str → Option Value}, s₁.heap.Ns b m → (hidT s₁.heap H).Ns b m := fun {b m} ⟨o, es, ep, z, d, r⟩ => ⟨o, es, ep, hid z (fun y => by
      subst y
      rw [hobj] at z
      cases z
      cases d), d, r⟩
    have kinH : K.In (hidT s₁.heap H) := fun b o z => hidT_get (kin b o z) (Decidable.byContradiction fun y => by
      have := isA y
      subst this
      rw [nk y] at z
      cases z)
    have md : Mod K mg (hidT s₁.heap H) := ⟨kinH, nsH hmg, ⟨mb, nsH hmb, hbb⟩, let ⟨mc, h1, h2⟩ := hlim; ⟨mc, nsH h1, h2⟩⟩
    have env : Env0 P w K mg (hidT s₁.heap H) callerA [] s₁ H := ⟨rfl, md, fun b o z => of_hidT z, Nat.le_of_eq (hidT_size _ _), trivial, fun b z => (by cases (show b ∈ ([] : List Addr) from z)), ok, .of_eq hgen⟩
    obtain ⟨io, ho⟩ := hout
    have sp : spD R out [.ref a] H (fun v _ => v = .bl true) fun _ _ _ => False := by
      refine ⟨[.scr ns], fun _ => False, fun _ _ => False, ⟨rfl, fun i => ?_, fun _ _ _ z => z.elim, fun _ _ z => z.elim, fun _ z => z.elim, fun _ _ z => z.elim⟩, ?_⟩
      · cases i with
        | zero => exact .data (.scr (by rw [hRK]; exact fat)) rfl fun _ z => z
        | succ i => exact fun _ z => z
      · rw [ho]
        exact fun I' F' H' v _ _ r => by
          have r : Rep R I' H' v (.bl true) := r
          cases r
          rfl
    refine codeAny_mono ((G _ kinH (nsH hmg)).go callerA [] s₁ H ⟨[.ref a], []⟩ [.ref a] [.ref a] _ _ hroom rfl env (hbind s₁ (.ref a)) (.cons rfl .nil) sp) fun r s' z => ?_
    cases r with
    | error e => exact z.elim
    | ok fl =>
      cases fl <;> first | exact z.elim | skip
      obtain ⟨v, H', eos, ebare, un, ok', rv', q⟩ := z
      subst q
      cases (show _ = Value.bool true from rv')
      refine ⟨rfl, OldK.of_keep fun b o z => ?_, eos, ebare⟩
      rcases only b with y | ⟨_, ob, xs, y⟩
      · exact un.keep b o z y (fun t => by cases (show b ∈ ([] : List Addr) from t)) fun t => by cases t
      · obtain ⟨e1, _⟩ := ok b _ y
        obtain ⟨e2, _⟩ := ok' b _ (un.frzs b ob _ y)
        rw [z] at e1
        cases e1
        exact e2
  cases hk : K.lookup a with
  | some o =>
    have z := kin a o hk
    rw [hobj] at z
    cases z
    exact main (fun _ => none) (fun _ => .inl rfl) (.inr ⟨_, vs.toArray, _, hk, rfl, rfl, rfl, by rw [List.size_toArray, hsz]; exact hlen, by simpa using rv⟩) (fun b u z => nomatch (show (none : Option HO) = some u from z)) fun z => (z rfl).elim
  | none =>
    refine main (fun b => if b = a then some (.frz { cls := .type "list", data := .seq vs.toArray } (.lst (ns.map V.int))) else none) (fun b => ?_) (.inl ⟨_, if_pos rfl⟩) (fun b u z => ?_) fun _ => hk
    · by_cases h : b = a
      · exact .inr ⟨h, _, _, if_pos h⟩
      · exact .inl (if_neg h)
    · by_cases h : b = a
      · cases (if_pos h).symm.trans z
        subst h
        exact ⟨hobj, by rw [List.length_map]; exact hlen, vs, _, rv, hobj⟩
      · cases (if_neg h).symm.trans z
theorem walkG {l : PySem.W.OpenLaw} {m n : Nat} {q : Program} {loose : List Str} {XP : (Str → Option Value) → Heap → Prop} {YP : World → Heap → Prop} {d : DefRec} {x : Str} (hm : l.most = some m) (hm2 : m ≤ sizeLine) (hdf : d.params.defaults = []) (hroom : Room n callerA)
    (F : ∀ (w : World) (mg : Str → Option Value) (fa : Addr) (h : Heap), YP w h → h.Ns mainGlobals mg → mg d.name = some (.ref fa) → ∃ (K : PySem.W.Frag) (R : RX) (fd : FuncData) (out : List D → OutF), R.K = K ∧ K.In h ∧ (∀ (s : Shared) (u : Value), BindsTo s fd ⟨[u], []⟩ [(x, u)]) ∧
      (∀ ns : List Int, ns.length ≤ m → (∀ z ∈ ns, Builtin.Int.intBits z ≤ 1048576) → ∃ io, out [.scr ns] = .ret (.bl true) io) ∧ ∀ base : Heap, K.In base → base.Ns mainGlobals mg → FnG l.prog w K mg base CXn n fa fd [x] (spD R out)) :
    PySem.W.WalkO q loose XP YP l.row.toRowW d [] (fun f vs => PySem.call f vs) := by
  refine Att.attach_callB hm hdf fun w s₀ s₁ mg mb fa o pm cd doc a vs ns G Y ho hd hcd hmg hobj hints hlen hbits hg => ?_
  obtain ⟨K, R, fd, out, hRK, kin, hb, hout, hF⟩ := F w mg fa _ Y G.T.g hmg
  exact callL hRK kin G.T.g G.T.b G.T.builtins G.T.nolimit hg hobj hints (Nat.le_trans hlen hm2) hroom hF hb (hout ns hlen hbits)
end Dl
/-! DL15: a module's constants; the head's hook; the facts of a law's top. -/
namespace Dl
open PySem PySem.Spec PyProof.Rows L2
/-! ### constants of the module -/
mutual
def repB (K : PySem.W.Frag) : D → Value → Bool
  | .non, .none => true
  | .bl b, .bool c => b == c
  | .int i, .int j _ => decide (i = j)
  | .str x, .str y _ => decide (x = y)
  | .tup ds, .ref a => match K.lookup a with
    | some ⟨.type c, _, .seq its _, _⟩ => decide (c = "tuple") && (decide (its.size ≤ sizeLine) && repsB K ds its.toList)
    | _ => false
  | _, _ => false
def repsB (K : PySem.W.Frag) : List D → List Value → Bool
  | [], [] => true
  | d :: ds, u :: us => repB K d u && repsB K ds us
  | _, _ => false
end
mutual
theorem repB_ok {K : PySem.W.Frag} {R : RX} (hR : R.K = K) : ∀ (d : D) (u : Value), repB K d u = true → ∃ v, RelV v u ∧ ∀ I H, Rep R I H v d
  | .non, u, h => by
    cases u <;> first | (unfold repB at h; cases h; done) | skip
    exact ⟨.non, rfl, fun _ _ => .non⟩
  | .bl b, u, h => by
    cases u <;> first | (unfold repB at h; cases h; done) | skip
    rename_i c
    obtain rfl : b = c := by simpa [repB] using h
    exact ⟨.bl b, rfl, fun _ _ => .bl b⟩
  | .int i, u, h => by
    cases u <;> first | (unfold repB at h; cases h; done) | skip
    rename_i c t
    obtain rfl : i = c := by simpa [repB] using h
    exact ⟨.int i, ⟨t, rfl⟩, fun _ _ => .int i⟩
  | .str i, u, h => by
    cases u <;> first | (unfold repB at h; cases h; done) | skip
    rename_i c t
    obtain rfl : i = c := by simpa [repB] using h
    exact ⟨.str i, ⟨t, rfl⟩, fun _ _ => .str i⟩
  | .tup ds, u, h => by
    cases u <;> first | (unfold repB at h; cases h; done) | skip
    rename_i a
    unfold repB at h
    split at h
    · rename_i c od its n sl e
      rw [Bool.and_eq_true, Bool.and_eq_true] at h
      obtain ⟨h1, h2, h3⟩ := h
      obtain ⟨vs, r, q⟩ := repsB_ok hR ds its.toList h3
      exact ⟨.ref a, rfl, fun I H => .tup (.inr ⟨_, its, n, by rw [hR]; exact e, congrArg Value.type (of_decide_eq_true h1), rfl, of_decide_eq_true h2, r⟩) (q I H)⟩
    · cases h
  | .lst _, u, h => by unfold repB at h; cases h
  | .dct _, u, h => by unfold repB at h; cases h
  | .ins _ _, u, h => by unfold repB at h; cases h
  | .scr _, u, h => by unfold repB at h; cases h
  | .own _, u, h => by unfold repB at h; cases h
theorem repsB_ok {K : PySem.W.Frag} {R : RX} (hR : R.K = K) : ∀ (ds : List D) (us : List Value), repsB K ds us = true → ∃ vs, Vals vs us ∧ ∀ I H, Reps R I H vs ds
  | [], [], _ => ⟨[], .nil, fun _ _ => .nil⟩
  | d :: ds, u :: us, h => by
    unfold repsB at h
    rw [Bool.and_eq_true] at h
    obtain ⟨v, r, q⟩ := repB_ok hR d u h.1
    obtain ⟨vs, rs, qs⟩ := repsB_ok hR ds us h.2
    exact ⟨v :: vs, .cons r rs, fun I H => .cons (q I H) (qs I H)⟩
  | [], _ :: _, h => by unfold repsB at h; cases h
  | _ :: _, [], h => by unfold repsB at h; cases h
end
/-- the module's name x stands for d -/
def Kon (mg : Str → Option Value) (R : RX) (x : Str) (d : D) : Prop := ∃ u v, mg x = some u ∧ RelV v u ∧ ∀ I H, Rep R I H v d
def konB (K : PySem.W.Frag) (q : Str × D) : Bool := match PySem.W.nsIn K mainGlobals q.1 with
  | some (some u) => repB K q.2 u
  | _ => false
theorem kon_ok {K : PySem.W.Frag} {R : RX} (hR : R.K = K) {h : Heap} {mg : Str → Option Value} (kin : K.In h) (ns : h.Ns mainGlobals mg) {q : Str × D} (b : konB K q = true) : Kon mg R q.1 q.2 := by
  unfold konB at b
  split at b
  · rename_i u e
    obtain ⟨v, r, z⟩ := repB_ok hR _ _ b
    exact ⟨u, v, PySem.W.mg_of kin ns e, r, z⟩
  · cases b
section
variable {X : Cx} {R : RX} {Wx : WX} {x : Str} {pos : Pos} {d : D} {e : Expr} {i : Nat}
theorem de_kon (k : Kon X.mg R x d) (hg : Gl X x) (hd : (x == ("__debug__" : Str)) = false := by decide) : PE X (.Name x pos) (tD R Wx (mC d) [] []) := by
  obtain ⟨u, v, h1, h2, h3⟩ := k
  exact de_c (pe_glob hg h1 h2 hd) h3
end
/-! ### the hook: facts, defs, constants -/
abbrev AlM : Type := He.AlD × Bool
def obsM (n : Nat) (fa : List He.Fa) (fn : List He.DefD) (ks : List (Str × D)) (g : Addr → Option Obj) : AlM := (He.obsD fa fn (He.frG g (He.asD g n)), ks.all (konB (He.frG g (He.asD g n))))
structure SaysM (fa : List He.Fa) (fn : List He.DefD) (ks : List (Str × D)) (K : PySem.W.Frag) : Prop where
  d : He.SaysD fa fn K
  k : ks.all (konB K) = true
def hookM (n : Nat) (fa : List He.Fa) (fn : List He.DefD) (ks : List (Str × D)) : PySem.W.Hook where
  α := AlM
  obs := fun s => obsM n fa fn ks s.heap.get?
  val := fun _ => (He.valD fn, true)
  says := fun _ h => ∃ K : PySem.W.Frag, K.In h ∧ SaysM fa fn ks K
  of := fun _ _ e => ⟨_, He.frG_in, congrArg (fun z : AlM => z.1) e, congrArg (fun z : AlM => z.2) e⟩
  keeps := fun _ _ _ ⟨K, hK, c⟩ k => ⟨K, PySem.W.Frag.In.keeps hK k, c⟩
theorem obsM_eq {n : Nat} {fa : List He.Fa} {fn : List He.DefD} {ks : List (Str × D)} {g : Addr → Option Obj} {s : Shared} (h : ∀ a, g a = s.heap.get? a) : obsM n fa fn ks g = (hookM n fa fn ks).obs s := by
  obtain rfl : g = s.heap.get? := funext h
  rfl
theorem SaysM.kon {fa : List He.Fa} {fn : List He.DefD} {ks : List (Str × D)} {K : PySem.W.Frag} (c : SaysM fa fn ks K) (i : Nat) {q : Str × D} (h : ks[i]? = some q) : konB K q = true := List.all_eq_true.mp c.k q (List.mem_of_getElem? h)
/-- the function objects by place -/
def FunsD (fn : List He.DefD) (K : PySem.W.Frag) (fds : Nat → FuncData) : Prop := ∀ (i : Nat) (d : He.DefD), fn[i]? = some d → FunD K d.name d.qual d.params d.body d.scope (d.dvs K) (d.kws K) (He.fAd K d.at_) (fds i)
theorem funs_ex {fa : List He.Fa} {fn : List He.DefD} {K : PySem.W.Frag} (c : He.SaysD fa fn K) : ∃ fds, FunsD fn K fds := by
  have : ∀ i : Nat, ∃ fd : FuncData, ∀ d : He.DefD, fn[i]? = some d → FunD K d.name d.qual d.params d.body d.scope (d.dvs K) (d.kws K) (He.fAd K d.at_) fd := fun i => by
    cases e : fn[i]? with
    | none => exact ⟨default, fun d z => nomatch z⟩
    | some d =>
      obtain ⟨fd, F⟩ := c.def_ i e
      exact ⟨fd, fun d' z => by cases z; exact F⟩
  exact ⟨fun i => (this i).choose, fun i => (this i).choose_spec⟩
end Dl
/-! DL16: odds and ends. -/
namespace Dl
open PySem PySem.Spec PyProof.Rows L2
def negD : D → Option D
  | .int i => some (.int (-i))
  | _ => none
def mUn (f : D → Option D) (fa : M D) : M D := fun Γ => (fa Γ).bind fun x Γ1 => optO (f x) Γ1
section
variable {X : Cx} {R : RX} {Wx : WX} {W B Wa Wb : List Nat} {a e : Expr} {es : List Expr} {pos : Pos}
theorem de_neg {f : M D} (h : PE X a (tD R Wx f B W)) : PE X (.UnaryOp .USub a pos) (tD R Wx (mUn negD f) [] W) := PE.imp (pe_un un_neg h) fun σ H Q ⟨Γ, I, F, sa, g⟩ => by
  refine ⟨Γ, I, F, sa, (g.bind (W1 := W) (W2 := []) (fun i h => h) (fun i h => nomatch h)).imp fun x Γ1 I1 F1 H1 sa1 s1 g1 v rv => ?_⟩
  cases x <;> first | exact g1.elim | skip
  cases rv
  exact ⟨_, rfl, g1.here sa1 _ (.int _)⟩
end
/-- a, b, c = e1, e2, e3 with plain local names -/
def sPar3 (i j l : Nat) (B : List Nat) (f : M (List D)) : MS := fun Γ => (f Γ).thenS fun ds Γ1 => match ds with
  | [d, c, b] => if i < Γ1.length ∧ j < Γ1.length ∧ l < Γ1.length then .next ((((settles [d, c, b] B Γ1).set i (some d)).set j (some c)).set l (some b)) else .bad
  | _ => .bad
theorem reps3 {R : RX} {I : Addr → Prop} {H : Hp} {xs : List V} {d c b : D} (r : Reps R I H xs [d, c, b]) : ∃ v u w, xs = [v, u, w] ∧ Rep R I H v d ∧ Rep R I H u c ∧ Rep R I H w b := by
  cases r with
  | cons h t =>
    obtain ⟨u, w, rfl, q1, q2⟩ := reps2 t
    exact ⟨_, _, _, rfl, h, q1, q2⟩
theorem ds_par3 {X : Cx} {R : RX} {Wx : WX} {P W B : List Nat} {a b c : Expr} {pos : Pos} {i j l : Nat} {x y z : Str} {f : M (List D)} {px py pz pt : Pos} {kt k2 : Nat} {pt2 : Pos} (hc : X.calm = true) (hN : X.N.Nodup) (hi : X.N[i]? = some x) (hj : X.N[j]? = some y) (hl : X.N[l]? = some z) (hij : i ≠ j) (hil : i ≠ l) (hjl : j ≠ l)
    (hx : X.env.scope.names.lookup x = some .local) (hy : X.env.scope.names.lookup y = some .local) (hz : X.env.scope.names.lookup z = some .local) (ha : PA X [a, b, c] (tDA R Wx f B W))
    (hw : swappedStores [.Tuple [.Name x px, .Name y py, .Name z pz] kt pt] (.Tuple [a, b, c] k2 pt2) X.env = pure (some [x, y, z])) (hpi : i ∉ P := by decide) (hpj : j ∉ P := by decide) (hpl : l ∉ P := by decide)
    (hs : swapsWithSole [.Tuple [.Name x px, .Name y py, .Name z pz] kt pt] (.Tuple [a, b, c] k2 pt2) pos.line X.env = pure false := by rfl) :
    PS X (.Assign [.Tuple [.Name x px, .Name y py, .Name z pz] kt pt] (.Tuple [a, b, c] k2 pt2) pos) (tDS R Wx P (sPar3 i j l B f)) := PS.imp (ps_par3 hc hN hi hj hl hij hil hjl hx hy hz ha hw hs) fun E σ H ⟨Γ, I, F, sa, g⟩ =>
  ⟨Γ, I, F, sa, (g.expr W).imp fun xs Γ1 I1 F1 H1 sa1 s1 g1 vs rv => by
    split at g1
    · rename_i d c b
      split at g1
      · rename_i hl
        obtain ⟨I2, F2, sa2, r2, i12, i21, f21, f12⟩ := settles_at sa1 rv
        obtain ⟨v, u, w, rfl, r1, r2, r3⟩ := reps3 r2
        refine ⟨v, u, w, rfl, ?_⟩
        have le : (settles [d, c, b] B Γ1).length = Γ1.length := by rw [sa2.len, sa1.len]
        have sa3 := ((sa2.set (i := i) (by rw [le]; exact hl.1) r1).set (i := j) (by rw [List.length_set, le]; exact hl.2.1) r2).set (i := l) (by rw [List.length_set, List.length_set, le]; exact hl.2.2) r3
        refine g1 _ _ _ H1 sa3 ⟨fun _ _ h _ => h, fun q a x => .inl ⟨q, f21 q a x.2.2.2⟩, fun a x => ?_, i12, fun _ h => h, fun k hk => ?_⟩
        · rcases i21 a x with y | ⟨q, _, y⟩
          · exact .inl y
          · exact .inr (.inl ⟨q, y⟩)
        · rw [List.getElem?_set_ne fun (e : l = k) => hpl (by rw [e]; exact hk), List.getElem?_set_ne fun (e : j = k) => hpj (by rw [e]; exact hk), List.getElem?_set_ne fun (e : i = k) => hpi (by rw [e]; exact hk)]
      · exact g1.elim
    · exact g1.elim⟩
/-! what is borrowed, told in another way -/
section
variable {X : Cx} {R : RX} {Wx : WX} {W B B' : List Nat} {e tg : Expr} {es : List Expr} {f : M D} {fs : M (List D)}
theorem deB (h : PE X e (tD R Wx f B W)) (q : B = B') : PE X e (tD R Wx f B' W) := q ▸ h
theorem dxB (h : PE X e (tDX R Wx f B W)) (q : B = B') : PE X e (tDX R Wx f B' W) := q ▸ h
theorem daB (h : PA X es (tDA R Wx fs B W)) (q : B = B') : PA X es (tDA R Wx fs B' W) := q ▸ h
theorem diB (h : PI X tg e (tDI R Wx fs B W)) (q : B = B') : PI X tg e (tDI R Wx fs B' W) := q ▸ h
end
/-- keywords: p tells for each parameter its place among the values as they are written -/
def kgI {α : Type} (p : List Nat) (us ws : List α) : List α := p.filterMap fun i => (us ++ ws)[i]?
theorem vals_get {l : List V} {m : List Value} (h : Vals l m) (i : Nat) : (l[i]? = none ∧ m[i]? = none) ∨ ∃ v u, l[i]? = some v ∧ m[i]? = some u ∧ RelV v u := by
  induction h generalizing i with
  | nil => exact .inl ⟨rfl, rfl⟩
  | cons r t ih =>
    cases i with
    | zero => exact .inr ⟨_, _, rfl, rfl, r⟩
    | succ i => exact ih i
theorem vals_pick {l : List V} {m : List Value} (h : Vals l m) : ∀ p : List Nat, Vals (p.filterMap fun i => l[i]?) (p.filterMap fun i => m[i]?)
  | [] => .nil
  | i :: p => by
    rcases vals_get h i with ⟨e1, e2⟩ | ⟨v, u, e1, e2, r⟩
    · rw [List.filterMap_cons_none e1, List.filterMap_cons_none e2]; exact vals_pick h p
    · rw [List.filterMap_cons_some e1, List.filterMap_cons_some e2]; exact .cons r (vals_pick h p)
theorem reps_pick {R : RX} {I : Addr → Prop} {H : Hp} {l : List V} {m : List D} (h : Reps R I H l m) : ∀ p : List Nat, Reps R I H (p.filterMap fun i => l[i]?) (p.filterMap fun i => m[i]?)
  | [] => .nil
  | i :: p => by
    cases e : m[i]? with
    | none =>
      have e2 : l[i]? = none := by
        rw [List.getElem?_eq_none_iff] at e ⊢
        rw [h.length]; exact e
      rw [List.filterMap_cons_none e, List.filterMap_cons_none e2]; exact reps_pick h p
    | some d =>
      obtain ⟨v, e2, r⟩ := h.get e
      rw [List.filterMap_cons_some e, List.filterMap_cons_some e2]; exact .cons r (reps_pick h p)
theorem kgI_vals {p : List Nat} {vs : List V} {us : List Value} {zs : List V} {ws : List Value} (h : Vals vs us) (t : Vals zs ws) : Vals (kgI p vs zs) (kgI p us ws) := vals_pick (h.append t) p
theorem kgI_perm {R : RX} {m l : Nat} {p : List Nat} : Perm R m l (kgI p) (kgI p) := ⟨fun I H vs zs as cs _ _ r t => reps_pick (r.append t) p⟩
theorem fn0 {P : Program} {w : World} {K : PySem.W.Frag} {mg : Str → Option Value} {base : Heap} {R : RX} {fa : Addr} {fd : FuncData} {ps : List Str} : FnG P w K mg base CXn 0 fa fd ps (spD R fun _ => .bad) := by
  constructor
  · rintro vs H Q E ⟨as, I, F, sa, q⟩
    exact q.elim
  · rintro A fr s H args us vs Q E _ _ _ _ _ ⟨as, I, F, sa, q⟩
    exact q.elim
theorem units65 {n : Nat} {A : Around} (r : Room n A) : A.units + 65 < cLine := by
  have := r.un
  omega
/-- no exception is wanted -/
theorem nopass {M : Model} {A : Around} {env : PySem.Env} : PassesOwn M A env fun _ _ => False := .never
end Dl
/-! DL17: dicts; join; defaults. -/
namespace Dl
open PySem PySem.Spec PyProof.Rows L2
/-! ### tables of data -/
def keyD : D → Option Key
  | .int i => some (.inl i)
  | .str x => some (.inr x)
  | _ => none
def keyV : Key → D
  | .inl i => .int i
  | .inr x => .str x
def valK (l : List (Key × D)) (k : Key) : Option D := (l.find? fun p => decide (p.1 = k)).map (·.2)
def putD (l : List (Key × D)) (k : Key) (d : D) : List (Key × D) := if (l.any fun p => decide (p.1 = k)) = true then l.map (fun p => if p.1 = k then (p.1, d) else p) else l ++ [(k, d)]
def mergeD (l more : List (Key × D)) : List (Key × D) := more.foldl (fun acc p => putD acc p.1 p.2) l
section
variable {R : RX} {I : Addr → Prop} {H : Hp}
theorem Rep.key {y : V} {d : D} {k : Key} (r : Rep R I H y d) (h : keyD d = some k) : y = kV k := by
  cases d <;> first | (cases h; done) | skip
  all_goals (cases h; cases r; rfl)
theorem RepK.val {k : Key} : ∀ {kvs : List (Key × V)} {l : List (Key × D)}, RepK R I H kvs l → (valK l k = none ∧ valV kvs k = none) ∨ ∃ d v, valK l k = some d ∧ valV kvs k = some v ∧ Rep R I H v d
  | _, _, .nil => .inl ⟨rfl, rfl⟩
  | _, _, .cons (k := k') (v := v) (d := d) r t => by
    by_cases e : k' = k
    · exact .inr ⟨d, v, by simp [valK, List.find?_cons, e], by simp [valV, List.find?_cons, e], r⟩
    · have := RepK.val (k := k) t
      simpa [valK, valV, List.find?_cons, e] using this
theorem RepK.len : ∀ {kvs : List (Key × V)} {l : List (Key × D)}, RepK R I H kvs l → kvs.length = l.length
  | _, _, .nil => rfl
  | _, _, .cons _ t => by rw [List.length_cons, List.length_cons, RepK.len t]
theorem RepK.any {k : Key} : ∀ {kvs : List (Key × V)} {l : List (Key × D)}, RepK R I H kvs l → (kvs.any fun p => decide (p.1 = k)) = l.any fun p => decide (p.1 = k)
  | _, _, .nil => rfl
  | _, _, .cons _ t => by rw [List.any_cons, List.any_cons, RepK.any t]
theorem RepK.append : ∀ {kvs kvs' : List (Key × V)} {l l' : List (Key × D)}, RepK R I H kvs l → RepK R I H kvs' l' → RepK R I H (kvs ++ kvs') (l ++ l')
  | _, _, _, _, .nil, t => t
  | _, _, _, _, .cons r s, t => .cons r (RepK.append s t)
theorem RepK.repl {k : Key} {v : V} {d : D} (r : Rep R I H v d) : ∀ {kvs : List (Key × V)} {l : List (Key × D)}, RepK R I H kvs l → RepK R I H (kvs.map fun p => if p.1 = k then (p.1, v) else p) (l.map fun p => if p.1 = k then (p.1, d) else p)
  | _, _, .nil => .nil
  | _, _, .cons (k := k') q t => by
    rw [List.map_cons, List.map_cons]
    by_cases e : k' = k
    · simp only [e, if_true]
      exact .cons r (RepK.repl r t)
    · simp only [e, if_false]
      exact .cons q (RepK.repl r t)
theorem RepK.put {k : Key} {v : V} {d : D} (r : Rep R I H v d) {kvs : List (Key × V)} {l : List (Key × D)} (t : RepK R I H kvs l) : RepK R I H (putK kvs k v) (putD l k d) := by
  unfold putK putD
  rw [t.any]
  split
  · exact t.repl r
  · exact t.append (.cons r .nil)
theorem putD_len (l : List (Key × D)) (k : Key) (d : D) : (putD l k d).length ≤ l.length + 1 := by
  unfold putD
  split
  · rw [List.length_map]; omega
  · rw [List.length_append, List.length_singleton]; omega
end
/-! ### subscripts, in -/
def ixA (x y : D) : Option D := match x with
  | .dct l => (keyD y).bind (valK l)
  | x => ixD x y
def rIxA (K : PySem.W.Frag) : R2 := fun x y H Q => rIx K x y H Q ∨ ∃ a v, x = .ref a ∧ DGet H a y (some v) ∧ Q v H
theorem ix_all {X : Cx} (hu : X.A.units + 64 < cLine) : IxR X (rIxA X.K) := ix_seq.or fun value slice pins s σ H x y v u Q I rx ry ⟨a, w, ex, g, q⟩ hs => by
  subst ex
  cases (show v = Value.ref a from rx)
  exact tail_any (dict_typeIs I g) PySem.F.slot_dict_getitem.lookup (d_getItem (by omega) I g ry fun w' s3 I3 rw' => ⟨w, H, I3, rw', q⟩) hs
theorem ixA_ops {R : RX} : Ops R (rIxA R.K) ixA := by
  intro I H x y dx dy z Q rx ry e k
  by_cases h : ∃ l, dx = .dct l
  · obtain ⟨l, rfl⟩ := h
    obtain ⟨ky, e1, e2⟩ := Option.bind_eq_some_iff.mp (show (keyD dy).bind (valK l) = some z from e)
    cases rx with
    | dct h1 h2 t =>
      obtain rfl := ry.key e1
      rcases t.val (k := ky) with ⟨n, _⟩ | ⟨d, v, a1, a2, r⟩
      · rw [n] at e2; cases e2
      · rw [a1] at e2
        cases e2
        exact .inr ⟨_, v, rfl, .inl ⟨_, ky, h2, rfl, a2.symm⟩, here2 k r⟩
  · have e : ixD dx dy = some z := by
      cases dx <;> first | exact (h ⟨_, rfl⟩).elim | exact e
    exact .inl (ix_ops I H x y dx dy z Q rx ry e k)
def inA (x y : D) : Option D := match y with
  | .dct l => (keyD x).map fun k => .bl (l.any fun p => decide (p.1 = k))
  | y => inS x y
def notInA (x y : D) : Option D := match y with
  | .dct l => (keyD x).map fun k => .bl (!(l.any fun p => decide (p.1 = k)))
  | y => notInS x y
def rInA (K : PySem.W.Frag) : R2 := fun x y H Q => rInQ K x y H Q ∨ ∃ a o, y = .ref a ∧ DGet H a x o ∧ Q (.bl o.isSome) H
def rNotInA (K : PySem.W.Frag) : R2 := fun x y H Q => rNotInQ K x y H Q ∨ ∃ a o, y = .ref a ∧ DGet H a x o ∧ Q (.bl (!o.isSome)) H
theorem or_inA {X : Cx} (hu : X.A.units + 65 < cLine) : OpR X (compareOp .In) (rInA X.K) := (or_in hu).or fun pins s σ H x y v u Q I rx ry ⟨a, o, ey, g, q⟩ => by
  subst ey
  cases (show u = Value.ref a from ry)
  exact d_in (by omega) I g rx fun s3 I3 => ⟨.bl o.isSome, H, I3, rfl, q⟩
theorem or_notInA {X : Cx} (hu : X.A.units + 65 < cLine) : OpR X (compareOp .NotIn) (rNotInA X.K) := (or_notIn hu).or fun pins s σ H x y v u Q I rx ry ⟨a, o, ey, g, q⟩ => by
  subst ey
  cases (show u = Value.ref a from ry)
  exact d_notIn (by omega) I g rx fun s3 I3 => ⟨.bl (!o.isSome), H, I3, rfl, q⟩
theorem RepK.isSome {R : RX} {I : Addr → Prop} {H : Hp} {k : Key} {kvs : List (Key × V)} {l : List (Key × D)} (t : RepK R I H kvs l) : (valV kvs k).isSome = l.any fun p => decide (p.1 = k) := by
  rw [← t.any, valV_any]
theorem inA_ops {R : RX} : Ops R (rInA R.K) inA := by
  intro I H x y dx dy z Q rx ry e k
  by_cases h : ∃ l, dy = .dct l
  · obtain ⟨l, rfl⟩ := h
    obtain ⟨ky, e1, rfl⟩ := Option.map_eq_some_iff.mp (show (keyD dx).map (fun k => D.bl (l.any fun p => decide (p.1 = k))) = some z from e)
    cases ry with
    | dct h1 h2 t =>
      obtain rfl := rx.key e1
      exact .inr ⟨_, _, rfl, .inl ⟨_, ky, h2, rfl, rfl⟩, by rw [t.isSome]; exact here2 k (.bl _)⟩
  · have e : inS dx dy = some z := by
      cases dy <;> first | exact (h ⟨_, rfl⟩).elim | exact e
    exact .inl (in_ops I H x y dx dy z Q rx ry e k)
theorem notInA_ops {R : RX} : Ops R (rNotInA R.K) notInA := by
  intro I H x y dx dy z Q rx ry e k
  by_cases h : ∃ l, dy = .dct l
  · obtain ⟨l, rfl⟩ := h
    obtain ⟨ky, e1, rfl⟩ := Option.map_eq_some_iff.mp (show (keyD dx).map (fun k => D.bl (!(l.any fun p => decide (p.1 = k)))) = some z from e)
    cases ry with
    | dct h1 h2 t =>
      obtain rfl := rx.key e1
      exact .inr ⟨_, _, rfl, .inl ⟨_, ky, h2, rfl, rfl⟩, by rw [t.isSome]; exact here2 k (.bl _)⟩
  · have e : notInS dx dy = some z := by
      cases dy <;> first | exact (h ⟨_, rfl⟩).elim | exact e
    exact .inl (notIn_ops I H x y dx dy z Q rx ry e k)
/-! len of anything -/
def lenA : List D → Option D
  | [.dct l] => some (.int l.length)
  | l => lenD l
def rLenA (K : PySem.W.Frag) : List V → Hp → VK → Prop := fun xs H Q => rLenQ K xs H Q ∨ ∃ p kvs, xs = [.ref p] ∧ Rd H p (.dK kvs) ∧ Q (.int kvs.length) H
theorem cr_lenA {X : Cx} : CallR X (.builtin "len") (rLenA X.K) := CallR.or cr_len fun pins s σ H xs us Q I r ⟨p, kvs, ex, e, q⟩ => by
  subst ex
  obtain ⟨u, rfl, ru⟩ := vals1 r
  cases (show u = Value.ref p from ru)
  exact d_len I e fun t s3 I3 => ⟨.int kvs.length, H, I3, ⟨t, rfl⟩, q⟩
theorem lenA_ok {R : RX} : CallD R (rLenA R.K) lenA := by
  intro I H xs ds z Q r e k
  by_cases h : ∃ l, ds = [.dct l]
  · obtain ⟨l, rfl⟩ := h
    cases e
    obtain ⟨v, rfl, q⟩ := reps1 r
    cases q with
    | dct h1 h2 t => exact .inr ⟨_, _, rfl, h2, by rw [t.len]; exact here2 k (.int _)⟩
  · have e : lenD ds = some z := by
      unfold lenA at e
      split at e
      · exact (h ⟨_, rfl⟩).elim
      · exact e
    exact .inl (len_ok I H xs ds z Q r e k)
section
variable {X : Cx} {R : RX} {Wx : WX} {P W Wa Wb Wc B Ba Bb Bc : List Nat} {a b c e o : Expr} {es : List Expr} {pos apos cpos : Pos}
theorem de_ixA {fa fb : M D} (hK : R.K = X.K) (hu : X.A.units + 64 < cLine) (ha : PE X a (tD R Wx fa Ba Wa)) (hb : PE X b (tD R Wx fb Bb Wb)) (hs : PlainIx b := by exact fun _ _ => rfl) (hd : ∀ i ∈ Ba, i ∉ Wb := by decide) :
    PE X (.Subscript a b pos) (tD R Wx (mBin ixA fa fb) (Ba ++ Bb) (Wa ++ Wb)) := PE.imp (pe_ix (hK ▸ ix_all hu) ha hb hs) fun σ H Q h => bin_core ixA_ops hd h
/-- an item of what a slot holds (own or not): nothing is borrowed -/
def mOwnIxA (i : Nat) (fb : M D) : M D := fun Γ => match getO Γ i with
  | none => .bad
  | some _ => (fb Γ).bind fun y Γ1 => optO ((getO Γ1 i).bind fun x => ixA x y) Γ1
theorem de_ownIxA {i : Nat} {fb : M D} (hK : R.K = X.K) (hu : X.A.units + 64 < cLine) (ha : PE X a (tVar i)) (hb : PE X b (tD R Wx fb Bb Wb)) (hs : PlainIx b := by exact fun _ _ => rfl) : PE X (.Subscript a b pos) (tD R Wx (mOwnIxA i fb) [] Wb) := PE.imp (pe_ix (hK ▸ ix_all hu) ha hb hs) fun σ H Q ⟨Γ, I, F, sa, g⟩ => by
  unfold mOwnIxA at g
  cases e0 : Dl.getO Γ i with
  | none => simp only [e0] at g; exact g.elim
  | some c0 =>
    simp only [e0] at g
    obtain ⟨v, ev, _⟩ := sa.getO e0
    refine ⟨v, ev, Γ, I, F, sa, (g.bind (W1 := Wb) (W2 := []) (fun i h => h) (fun i h => nomatch h)).imp fun y Γ1 I1 F1 H1 sa1 s1 g1 u ru => ?_⟩
    cases e1 : Dl.getO Γ1 i with
    | none => rw [e1] at g1; exact g1.elim
    | some c =>
      rw [e1] at g1
      have g1 : Go R Wx [] I1 F1 σ H1 (optO (ixA c y) Γ1) (kE R [] Q) := g1
      cases e2 : ixA c y with
      | none => rw [e2] at g1; exact g1.elim
      | some z =>
        rw [e2] at g1
        have g2 : Go R Wx [] I1 F1 σ H1 (.ok z Γ1) (kE R [] Q) := g1
        obtain ⟨v', ev', r⟩ := sa1.getO e1
        rw [ev] at ev'
        cases ev'
        have fr : free y = true := by
          unfold ixA at e2
          split at e2
          · obtain ⟨ky, e3, _⟩ := Option.bind_eq_some_iff.mp e2
            cases y <;> first | (cases e3; done) | rfl
          · unfold ixD at e2
            split at e2 <;> first | rfl | cases e2
        rcases r with r | ⟨Fo, r⟩
        · exact ixA_ops I1 H1 v u c y z Q r (ru.free fr) e2 fun w I2 H2 sm hi hf rw_ => g2.fin (B := []) sa1 w I2 H2 sm (fun a x => by
            rcases x with x | ⟨j, hj, _⟩
            · exact hi a x
            · cases hj) (fun a x => by
            rcases hf a x with y | y
            · exact .inl (.inl y)
            · exact .inr y) rw_
        · unfold ORep at r
          split at r
          · obtain ⟨p, xs, rfl, hp, t, hF⟩ := r
            exact .inl (ix_own (Fo := Fo) (c := .lst _) ⟨p, xs, rfl, hp, t, hF⟩ ru e2 fun w rw_ => g2.here sa1 w (rw_.reg fun _ => J.of))
          · obtain ⟨p, kvs, rfl, hp, t, _⟩ := r
            obtain ⟨ky, e3, e4⟩ := Option.bind_eq_some_iff.mp (show (keyD y).bind (valK _) = some z from e2)
            obtain rfl := ru.key e3
            rcases t.val (k := ky) with ⟨n, _⟩ | ⟨d, w, a1, a2, q⟩
            · rw [n] at e4; cases e4
            · rw [a1] at e4
              cases e4
              exact .inr ⟨_, w, rfl, .inl ⟨_, ky, .inl hp, rfl, a2.symm⟩, g2.here sa1 w (q.reg fun _ => J.of)⟩
          · exact r.elim
/-! join -/
def textsD : List D → Option (List Str)
  | [] => some []
  | .str x :: l => (textsD l).map (x :: ·)
  | _ :: _ => none
theorem Reps.texts {I : Addr → Prop} {H : Hp} : ∀ {xs : List V} {ds : List D} {ys : List Str}, Reps R I H xs ds → textsD ds = some ys → xs = ys.map V.str
  | _, _, _, .nil, e => by cases e; rfl
  | _, _, _, .cons (d := d) r t, e => by
    cases d <;> first | (cases e; done) | skip
    rename_i x
    obtain ⟨l, e1, rfl⟩ := Option.map_eq_some_iff.mp (show (textsD _).map (x :: ·) = some _ from e)
    cases r
    rw [Reps.texts t e1]
    rfl
def joinD (sep : Str) (x : D) : Option D := match x with
  | .lst l => (textsD l).bind fun ys => if (ys.map (·.length)).sum + ys.length * sep.length ≤ 16777216 then some (.str (Txt.join sep ys)) else none
  | .tup l => (textsD l).bind fun ys => if (ys.map (·.length)).sum + ys.length * sep.length ≤ 16777216 then some (.str (Txt.join sep ys)) else none
  | _ => none
def mJoin (sep : Str) (f : M D) : M D := fun Γ => (f Γ).bind fun x Γ1 => optO (joinD sep x) Γ1
theorem de_join {sep : Str} {f : M D} {k : Nat} {p : Pos} (hK : R.K = X.K) (he : PE X e (tD R Wx f B W)) (hbase : attributeBase (.Constant (.str sep) k p) "join" X.env (eval (.Constant (.str sep) k p) X.env) = eval (.Constant (.str sep) k p) X.env := by rfl)
    (hfew : ((backTo cpos (starEach [e] X.env)).all (fun x => !x.1) && (backToKw cpos (keywordEach [] X.env)).all (fun x => x.1.isSome)
      && decide (([e] : List Expr).length + ([] : List Keyword).length + (if ([] : List Keyword).isEmpty then 0 else 1) < 30)) = true := by rfl) (hline : (apos.endLine == cpos.line) = true := by rfl)
    (hs : starEach [e] X.env = (false, eval e X.env) :: starEach [] X.env := by rfl) (hplain : (backTo cpos (starEach [] X.env)).any (·.1) = false := by rfl) :
    PE X (.Call (.Attribute (.Constant (.str sep) k p) "join" apos) [e] [] cpos) (tD R Wx (mJoin sep f) [] W) := PE.imp (pe_bm PySem.F.plainAttrs_str PySem.F.slot_str_join PySem.F.type_str_join mt_join pe_str (pa_cons he pa_nil hs) hbase hfew hline hs hplain) fun σ H Q ⟨Γ, I, F, sa, g⟩ => by
  refine ⟨rfl, Γ, I, F, sa, (g.bind (W1 := W) (W2 := []) (fun i h => h) (fun i h => nomatch h)).imp fun d Γ1 I1 F1 H1 sa1 s1 g1 v rv => ?_⟩
  unfold joinD at g1
  split at g1
  · rename_i l
    cases e1 : textsD l with
    | none => rw [e1] at g1; exact g1.elim
    | some ys =>
      rw [e1] at g1
      have g1 : Go R Wx [] I1 F1 σ H1 (optO (if (ys.map (·.length)).sum + ys.length * sep.length ≤ 16777216 then some (D.str (Txt.join sep ys)) else none) Γ1) (kE R [] Q) := g1
      split at g1
      · rename_i hz
        cases rv with
        | lst h1 h2 t =>
          refine ⟨sep, _, ys, rfl, rfl, .inl (hK ▸ .of (by rw [← t.texts e1]; exact h2)), hz, g1.here sa1 _ (.str _)⟩
      · exact g1.elim
  · rename_i l
    cases e1 : textsD l with
    | none => rw [e1] at g1; exact g1.elim
    | some ys =>
      rw [e1] at g1
      have g1 : Go R Wx [] I1 F1 σ H1 (optO (if (ys.map (·.length)).sum + ys.length * sep.length ≤ 16777216 then some (D.str (Txt.join sep ys)) else none) Γ1) (kE R [] Q) := g1
      split at g1
      · rename_i hz
        cases rv with
        | tup h2 t =>
          refine ⟨sep, _, ys, rfl, rfl, .inr (hK ▸ (by rw [← t.texts e1]; exact h2)), hz, g1.here sa1 _ (.str _)⟩
      · exact g1.elim
  · exact g1.elim
end
end Dl
/-! DL18: defaults; dict comprehensions. -/
namespace Dl
open PySem PySem.Spec PyProof.Rows L2
/-! ### defaults -/
/-- a call whose last arguments are the defaults dd -/
def outD (out : List D → OutF) (dd : List D) : List D → OutF := fun as => match out (as ++ dd) with
  | .ret d [] => .ret d []
  | _ => .bad
theorem SA.app {R : RX} {I : Addr → Prop} {F : Fps} {H : Hp} {as dd : List D} {vs dv : List V} (sa : SA R I F (as.map some) (vs.map some) H) (r : ∀ I H, Reps R I H dv dd) : SA R I F ((as ++ dd).map some) ((vs ++ dv).map some) H := by
  have hl : as.length = vs.length := by have := sa.len; simpa using this
  have rl := (r I H).length
  refine ⟨by simp [hl, rl], fun i => ?_, sa.dis, sa.apt, sa.itr, sa.trk⟩
  have k := sa.ok i
  rw [List.map_append, List.map_append]
  by_cases hi : i < as.length
  · rw [List.getElem?_append_left (by simpa using hi), List.getElem?_append_left (by simpa [← hl] using hi)]
    exact k
  · have n : ∀ a, ¬ F i a := by
      have e : (as.map some)[i]? = none := List.getElem?_eq_none (by simpa using Nat.le_of_not_lt hi)
      rw [e] at k
      exact k
    rw [List.getElem?_append_right (by simpa using Nat.le_of_not_lt hi), List.getElem?_append_right (by simpa [← hl] using Nat.le_of_not_lt hi), List.length_map, List.length_map, hl, List.getElem?_map, List.getElem?_map]
    cases e : dd[i - vs.length]? with
    | none => exact n
    | some d =>
      obtain ⟨v, e1, q⟩ := (r I H).get e
      rw [e1]
      exact .data q rfl n
theorem spD_app {R : RX} {out : List D → OutF} {dd : List D} {dv : List V} (r : ∀ I H, Reps R I H dv dd) : ∀ vs H Q, spD R (outD out dd) vs H Q E0 → spD R out (vs ++ dv) H Q E0 := by
  rintro vs H Q ⟨as, I, F, sa, q⟩
  refine ⟨as ++ dd, I, F, sa.app r, ?_⟩
  unfold outD at q
  cases e : out (as ++ dd) with
  | bad => simp only [e] at q
  | exc x => simp only [e] at q
  | ret d io =>
    cases io with
    | cons o l => simp only [e] at q
    | nil =>
      simp only [e] at q
      intro I' F' H' v sa' s rr
      exact q I' F' H' v sa' ⟨s.keep, s.fre, s.ifr, s.imo, s.dom, fun _ _ => rfl⟩ rr
section
variable {X : Cx} {R : RX} {Wx : WX} {W B : List Nat} {n : Nat} {fa : Addr} {fd : FuncData} {ps ks : List Str} {x : Str} {q pos : Pos} {a e : Expr} {es : List Expr} {out : List D → OutF} {f : M (List D)}
theorem dx_callD {dd : List D} {dv : List V} {ds : List Value} (C : CallOk X R n x fa fd ps out) (hg : Gl X x) (hb : L2.Binds X.K fd ps ds) (hd : Vals dv ds) (r : ∀ I H, Reps R I H dv dd) (ha : PA X (e :: es) (tDA R Wx f B W)) (hdb : (x == ("__debug__" : Str)) = false := by decide) (he : starEach (e :: es) X.env = (false, eval e X.env) :: starEach es X.env := by rfl) (hpl : (backTo pos (starEach es X.env)).any (·.1) = false := by rfl) :
    PE X (.Call (.Name x q) (e :: es) [] pos) (tDX R Wx (mCall (outD out dd) f) B W) := PE.imp (pe_callG C.G C.hr C.gu hg C.m C.kp hb hd passN ha hdb he hpl) fun σ H Q h => call_core (spD_app r) h
end
/-- data of constants -/
inductive KonV : V → D → Prop
  | non : KonV .non .non
  | bl (b : Bool) : KonV (.bl b) (.bl b)
  | int (i : Int) : KonV (.int i) (.int i)
  | str (x : Str) : KonV (.str x) (.str x)
theorem KonV.rep {R : RX} {I : Addr → Prop} {H : Hp} {v : V} {d : D} (k : KonV v d) : Rep R I H v d := by
  cases k with
  | non => exact .non
  | bl b => exact .bl b
  | int i => exact .int i
  | str x => exact .str x
theorem konvs {R : RX} {dv : List V} {dd : List D} (h : Paired KonV dv dd) : ∀ I H, Reps R I H dv dd := fun I H => by
  induction h with
  | nil => exact .nil
  | cons k _ ih => exact .cons k.rep ih
end Dl
namespace Dl
open PySem PySem.Spec PyProof.Rows L2
/-- keywords and defaults: p tells for each parameter its place among values, defaults, keywords' values -/
def kgD {α : Type} (p : List Nat) (its us ws : List α) : List α := p.filterMap fun i => (us ++ (its ++ ws))[i]?
theorem kbn_dfl {K : PySem.W.Frag} {qual x : Str} {params : Arguments} {body : List Stmt} {scope : Scope} {fa : Addr} {fd : FuncData} {ps ks : List Str} {m : Nat} {dvs : List V} {p : List Nat} (F : FunD K x qual params body scope dvs [] fa fd) (hd : dvs ≠ [])
    (h : ∀ (T : Addr) (kV doc pm : Value) (an : Option Addr) (cdv ct : Value) (us its ws : List Value), us.length = m → its.length = dvs.length → ws.length = ks.length →
      ∃ k, bindArgs (PySem.W.fnOf x qual params body scope (.ref T) kV doc pm an cdv ct) ⟨us, ks.zip ws⟩ = seqItems? (.ref T) >>= k ∧ k (some its.toArray) = pure (ps.zip (kgD p its us ws))) : ∃ its : List Value, KBn K fd ps m ks (kgD p its) (kgD p dvs) :=
  F.kbindsD m ks (fun us its ws => kgD p its us ws) hd (fun r1 r2 r3 => vals_pick (r1.append (r2.append r3)) p) h
theorem kgD_perm {R : RX} {m l : Nat} {p : List Nat} {dv : List V} {dd : List D} (r : ∀ I H, Reps R I H dv dd) : Perm R m l (kgD p dv) (kgD p dd) := ⟨fun I H vs zs as cs _ _ r1 r2 => reps_pick (r1.append ((r I H).append r2)) p⟩
end Dl
/-! DL19: dict comprehensions. -/
namespace Dl
open PySem PySem.Spec PyProof.Rows L2
def loopK (g : AsT) (vs : List Nat) (ft : M Bool) (fk fe : M D) (acc : List (Key × D)) : List D → M (List (Key × D))
  | [], Γ => .ok acc Γ
  | d :: ds, Γ => match g d (wipeG Γ vs) with
    | none => .bad
    | some Γ1 => match ft Γ1 with
      | .ok k Γ2 => if k = true then (match fk Γ2 with
          | .ok y Γ3 => match keyD y with
            | none => .bad
            | some ky => match fe Γ3 with
              | .ok z Γ4 => loopK g vs ft fk fe (putD acc ky z) ds (backG Γ vs Γ4)
              | _ => .bad
          | _ => .bad) else loopK g vs ft fk fe acc ds (backG Γ vs Γ2)
      | _ => .bad
/-- content of a dict comprehension -/
def mDcC (B : List Nat) (fi : M (List D)) (g : AsT) (vs : List Nat) (ft : M Bool) (fk fe : M D) : M (List (Key × D)) := fun Γ => (fi Γ).bind fun ds Γ1 =>
  if noOwn vs (frz B Γ1) = true ∧ ds.length ≤ sizeLine then loopK g vs ft fk fe [] ds (frz B Γ1) else .bad
/-- a dict comprehension over a walk: Pv by the turn and the heap -/
theorem dc_it {J : It} {n : Nat} {G : Hp → Prop} {Y : Nat → Hp → V → Hp → Prop} (w : Walk J n G Y) {g : TG} {tt : TT} {tk te : TE} {vs : List Nat} {σ : L2.St} {H1 : Hp} {D : Addr} {Qd : Hp → Prop} (Pv : Nat → Hp → Prop) (h0 : Pv 0 (upd H1 D (.dK []))) (hG : ∀ i H, i ≤ n → Pv i H → G H)
    (hs : ∀ i x H H', i < n → Pv i H → Y i H x H' → g x (wipe σ vs) H' fun σ2 H2 => wipe σ2 vs = wipe σ vs ∧ tt σ2 H2 fun b H3 => if b = true then tk σ2 H3 fun y H4 => te σ2 H4 fun z H5 => ∃ kvs k, y = kV k ∧ H5 D = some (.dK kvs) ∧ kvs.length < sizeLine ∧ Pv (i + 1) (upd H5 D (.dK (putK kvs k z))) else Pv (i + 1) H3)
    (hd : ∀ H, Pv n H → Qd H) : ∃ W : Nat → Nat → Hp → Prop, (∃ m, W 0 m (upd H1 D (.dK []))) ∧ ∀ i m H, W i m H → (J.stop i H ∧ Qd H) ∨ (J.go i H ∧ ∃ Nx : Hp → Prop, (∀ H', Nx H' → ∃ m', m' < m ∧ W (i + 1) m' H') ∧
      ∀ x H', J.yld i H x H' → g x (wipe σ vs) H' fun σ2 H2 => wipe σ2 vs = wipe σ vs ∧ tt σ2 H2 fun b H3 => if b = true then tk σ2 H3 fun y H4 => te σ2 H4 fun z H5 => ∃ kvs k, y = kV k ∧ H5 D = some (.dK kvs) ∧ kvs.length < sizeLine ∧ Nx (upd H5 D (.dK (putK kvs k z))) else Nx H3) := by
  refine ⟨fun i m H => m = n - i ∧ i ≤ n ∧ Pv i H, ⟨n, (Nat.sub_zero n).symm, Nat.zero_le n, h0⟩, fun i m H ⟨em, hi, p⟩ => ?_⟩
  have q := hG i H hi p
  rcases Nat.lt_or_ge i n with hlt | hge
  · exact .inr ⟨w.goes i H hlt q, Pv (i + 1), fun H' p' => ⟨n - (i + 1), by omega, rfl, hlt, p'⟩, fun x H' y => hs i x H H' hlt p (w.yields i H x H' hlt q y)⟩
  · have e : i = n := by omega
    rw [e] at p ⊢
    exact .inl ⟨w.stops H q, hd H p⟩
section
variable {R : RX} {I I' : Addr → Prop} {F F' : Fps} {Γ : Env} {σ : L2.St} {H H' : Hp}
theorem SA.asideK (sa : SA R I F Γ σ H) {p : Addr} {xs ys : List (Key × V)} (hp : H p = some (.dK xs)) (h1 : ¬ I p) (h2 : ∀ j, ¬ F j p) : SA R I F Γ σ (upd H p (.dK ys)) ∧ Ext I H (upd H p (.dK ys)) := by
  have ex : Ext I H (upd H p (.dK ys)) := by
    refine ⟨fun a o x e => ?_, fun a zs e => ?_, fun a o u e => ?_⟩
    · rw [upd_ne (show a ≠ p from fun z => h1 (z ▸ x))]; exact e
    · rw [upd_ne (show a ≠ p from fun z => by subst z; rw [hp] at e; cases e)]; exact e
    · rw [upd_ne (show a ≠ p from fun z => by subst z; rw [hp] at e; cases e)]; exact e
  have fs : ∀ j a o, F j a → H a = some o → upd H p (.dK ys) a = some o := fun j a o x e => by
    rw [upd_ne (show a ≠ p from fun z => h2 j (z ▸ x))]; exact e
  refine ⟨⟨sa.len, fun i => (sa.ok i).ext ex fun a o x => fs i a o x, sa.dis, sa.apt, fun a x => ?_, fun i a x => ?_⟩, ex⟩
  · obtain ⟨o, e⟩ := Option.ne_none_iff_exists'.mp (sa.itr a x)
    rw [ex.i a o x e]
    exact Option.some_ne_none o
  · obtain ⟨o, e, t⟩ := sa.trk i a x
    exact ⟨o, fs i a o x e, t⟩
end
section
variable {X : Cx} {R : RX} {Wx : WX} {P W Wi Wt Wk We B Bi Bk Be T vs : List Nat} {a b c e tg iter elt kx vx : Expr} {ifs : List Expr} {pos : Pos}
/-- the core of a dict comprehension -/
theorem dk_core {fi : M (List D)} {g : AsT} {ft : M Bool} {fk fe : M D} {σ : L2.St} {H : Hp} {Q : VK} {k : List (Key × Dl.D) → Env → (Addr → Prop) → Fps → Hp → Prop}
    (hT : ∀ i ∈ T, i ∈ vs) (hW : ∀ i ∈ Wt ++ (Wk ++ We), i ∉ vs) (hB : ∀ i ∈ Be, i ∉ Wt ++ (Wk ++ We)) (hBv : ∀ i ∈ Be, i ∉ vs)
    {Γ0 : Env} {I0 : Addr → Prop} {F0 : Fps} (sa0 : SA R I0 F0 Γ0 σ H) (h : Go R Wx (Wi ++ (Bi ++ (Wt ++ (Wk ++ We)))) I0 F0 σ H (mDcC Bi fi g vs ft fk fe Γ0) k)
    (fin : ∀ (ys : List (Key × Dl.D)) (Γ : Env) (I1 : Addr → Prop) (F1 : Fps) (H1 : Hp) (I : Addr → Prop) (F : Fps) (H' : Hp) (D : Addr) (xs : List (Key × V)) (Γ1 : Env), SA R I1 F1 Γ1 σ H1 → (∀ a, H1 a = none → H a = none) → Go R Wx (Bi ++ (Wt ++ (Wk ++ We))) I1 F1 σ H1 (.ok ys Γ) k → H1 D = none → SA R I F Γ σ H' →
      Stp (Wt ++ (Wk ++ We)) (J I1 F1 Bi) (fun j a => j ∉ Bi ∧ F1 j a) H1 I F H' → H' D = some (.dK xs) → ¬ I D → (∀ j, ¬ F j D) → RepK R (J I F Be) H' xs ys → Q (.ref D) H') :
    tDc (tDI R Wx fi Bi Wi) (tDG R T g) (tDT R Wf ft Wt) (tD R Wf fk Bk Wk) (tD R Wf fe Be We) vs σ H Q := by
  refine ⟨Γ0, I0, F0, sa0, (h.bind (W1 := Wi) (W2 := Bi ++ (Wt ++ (Wk ++ We))) (fun i h => List.mem_append_left _ h) (fun i h => List.mem_append_right _ h)).imp fun ds Γ1 I1 F1 H1 sa1 s1 g1 Jt it => ?_⟩
  intro D hD
  split at g1
  · rename_i hno
    obtain ⟨hno, hlen⟩ := hno
    obtain ⟨G, Y, w, wG, wY⟩ := it
    have sb := sa1.frz (B := Bi)
    have hset : StpS [] I1 F1 σ H1 (J I1 F1 Bi) (fun j a => j ∉ Bi ∧ F1 j a) σ H1 := .set (fun _ x => .inl x) (fun a x => by
      rcases x with x | ⟨j, _, x⟩
      · exact .inl x
      · exact .inr ⟨j, x⟩) (fun j a x => ⟨j, x.2⟩) fun _ _ => rfl
    have sm0 : Same H1 (upd H1 D (.dK [])) := same_upd hD
    have nI : ¬ J I1 F1 Bi D := fun x => sb.itr D x hD
    have nF : ∀ j, ¬ (j ∉ Bi ∧ F1 j D) := fun j x => by
      obtain ⟨o, e, _⟩ := sa1.trk j D x.2
      rw [hD] at e; cases e
    refine dc_it w (fun i H' => ∃ Γ' I' F' acc ys, SA R I' F' Γ' σ H' ∧ Stp (Wt ++ (Wk ++ We)) (J I1 F1 Bi) (fun j a => j ∉ Bi ∧ F1 j a) H1 I' F' H' ∧ H' D = some (.dK acc) ∧ ¬ I' D ∧ (∀ j, ¬ F' j D) ∧ RepK R (J I' F' Be) H' acc ys ∧ noOwn vs Γ' = true ∧
        acc.length ≤ i ∧ Go R Wx (Bi ++ (Wt ++ (Wk ++ We))) I1 F1 σ H1 (loopK g vs ft fk fe ys (ds.drop i) Γ') k) ?_ ?_ ?_ ?_
    · refine ⟨frz Bi Γ1, J I1 F1 Bi, _, [], [], sb.same sm0, Stp.grow sm0 (fun _ h => h) fun _ h => .inl h, upd_same, nI, nF, .nil, hno, Nat.le_refl _, ?_⟩
      rw [List.drop_zero]
      exact g1
    · rintro i H' _ ⟨Γ', I', F', acc, ys, sa', st, hd, n1, n2, rs, no, le, g'⟩
      exact wG H' (by
        have ex := sb.ext (B := []) st (fun i h => nomatch h)
        exact ⟨fun a o x e => ex.i a o (.inl x) e, ex.t, ex.f⟩)
    · rintro i x H' H'' hlt ⟨Γ', I', F', acc, ys, sa', st, hd, n1, n2, rs, no, le, g'⟩ y
      have ex0 := sb.ext (B := []) st (fun i h => nomatch h)
      obtain ⟨sm, d, e1, r⟩ := wY I' H' ⟨fun a o x e => ex0.i a o (.inl x) e, ex0.t, ex0.f⟩ (fun a x => st.imo a x) i x H'' hlt y
      have e2 : ds.drop i = d :: ds.drop (i + 1) := by
        obtain ⟨hl, e⟩ := List.getElem?_eq_some_iff.mp e1
        rw [← e, List.drop_eq_getElem_cons hl]
      rw [e2] at g'
      have sa2 := sa'.same sm
      refine ⟨wipeG Γ' vs, I', F', d, sa2.wipe no, r, ?_⟩
      have g' : Go R Wx (Bi ++ (Wt ++ (Wk ++ We))) I1 F1 σ H1 (match g d (wipeG Γ' vs) with
          | none => Out.bad
          | some Γ1 => match ft Γ1 with
            | .ok k Γ2 => if k = true then (match fk Γ2 with
                | .ok y Γ3 => match keyD y with
                  | none => .bad
                  | some ky => match fe Γ3 with
                    | .ok z Γ4 => loopK g vs ft fk fe (putD ys ky z) (ds.drop (i + 1)) (backG Γ' vs Γ4)
                    | _ => .bad
                | _ => .bad) else loopK g vs ft fk fe ys (ds.drop (i + 1)) (backG Γ' vs Γ2)
            | _ => .bad) k := g'
      cases ea : g d (wipeG Γ' vs) with
      | none => rw [ea] at g'; exact g'.elim
      | some Γa =>
        rw [ea] at g'
        intro Fa σa saa fa ba la na
        -- the slots outside vs
        have oa : ∀ i, i ∉ vs → σa[i]? = σ[i]? := fun i hi => by
          rw [na i fun z => hi (hT i z), wipe_eq, wipeG_out hi]
        have la' : σa.length = σ.length := by rw [la, wipe_eq, wipeG_len]
        refine ⟨?_, ?_⟩
        · rw [wipe_eq, wipe_eq]
          refine List.ext_getElem? fun j => ?_
          by_cases hj : j ∈ vs
          · have key : ∀ l l' : L2.St, l.length = l'.length → (wipeG l vs)[j]? = (wipeG l' vs)[j]? := fun l l' e => by
              by_cases hl : j < l.length
              · have a1 : (wipeG l vs)[j]? = some none := by
                  rcases wipeG_in (l := l) hj with z | z
                  · rw [List.getElem?_eq_none_iff, wipeG_len] at z; omega
                  · exact z
                have a2 : (wipeG l' vs)[j]? = some none := by
                  rcases wipeG_in (l := l') hj with z | z
                  · rw [List.getElem?_eq_none_iff, wipeG_len] at z; omega
                  · exact z
                rw [a1, a2]
              · rw [List.getElem?_eq_none (by rw [wipeG_len]; omega), List.getElem?_eq_none (by rw [wipeG_len]; omega)]
            exact key σa σ la'
          · rw [wipeG_out hj, wipeG_out hj, oa j hj]
        have sat : Stp (Wt ++ (Wk ++ We)) I' F' H'' I' Fa H'' := ⟨fun _ _ h _ => h, fun j hj a x => by
            by_cases hv : j ∈ vs
            · exact (sa2.noF (noOwn_at no hv) a x).elim
            · exact ba j (fun z => hv (hT j z)) a x, fun j a x => .inr (.inl (fa j a x)), fun _ h => .inl h, fun _ h => h, fun _ h => h⟩
        refine ⟨Γa, I', Fa, saa, ?_⟩
        have nFa : ∀ j, ¬ Fa j D := fun j x => n2 j (fa j D x)
        have hd2 : H'' D = some (.dK acc) := sm _ _ hd
        -- what a step keeps of the new list
        have keepD : ∀ {W' : List Nat} {I2 I3 : Addr → Prop} {F2 F3 : Fps} {H2 H3 : Hp}, Stp W' I2 F2 H2 I3 F3 H3 → H2 D = some (.dK acc) → ¬ I2 D → (∀ j, ¬ F2 j D) → H3 D = some (.dK acc) ∧ ¬ I3 D ∧ ∀ j, ¬ F3 j D := by
          intro W' I2 I3 F2 F3 H2 H3 s e m1 m2
          refine ⟨s.keep D _ e fun j _ => m2 j, fun x => ?_, fun j x => ?_⟩
          · rcases s.ifr D x with z | ⟨j, _, z⟩ | z
            · exact m1 z
            · exact m2 j z
            · rw [e] at z; cases z
          · rcases s.fre j D x with ⟨l, _, z⟩ | z | z
            · exact m2 l z
            · exact m2 j z
            · rw [e] at z; cases z
        have noB : ∀ (Γ3 : Env), noOwn vs (backG Γ' vs Γ3) = true ∨ Γ3.length ≠ Γ'.length := fun Γ3 => by
          by_cases hl : Γ3.length = Γ'.length
          · refine .inl (List.all_eq_true.mpr fun j hj => ?_)
            have hj' := noOwn_at no hj
            unfold isOwn at hj' ⊢
            rw [backG_in hl hj, hj']
            rfl
          · exact .inr hl
        -- the state behind a turn
        have again : ∀ {I3 : Addr → Prop} {F3 : Fps} {Γ3 : Env} {H3 : Hp} (acc' : List (Key × V)) (ys' : List (Key × Dl.D)), SA R I3 F3 Γ3 σa H3 → Stp (Wt ++ (Wk ++ We)) I' Fa H'' I3 F3 H3 → H3 D = some (.dK acc) → RepK R (J I3 (fun i a => i ∉ vs ∧ F3 i a) Be) H3 acc' ys' → acc'.length ≤ i + 1 →
            Go R Wx (Bi ++ (Wt ++ (Wk ++ We))) I1 F1 σ H1 (loopK g vs ft fk fe ys' (ds.drop (i + 1)) (backG Γ' vs Γ3)) k → ∀ H4, H4 = upd H3 D (.dK acc') →
            ∃ Γ' I' F' acc ys, SA R I' F' Γ' σ H4 ∧ Stp (Wt ++ (Wk ++ We)) (J I1 F1 Bi) (fun j a => j ∉ Bi ∧ F1 j a) H1 I' F' H4 ∧ H4 D = some (.dK acc) ∧ ¬ I' D ∧ (∀ j, ¬ F' j D) ∧ RepK R (J I' F' Be) H4 acc ys ∧ noOwn vs Γ' = true ∧
              acc.length ≤ i + 1 ∧ Go R Wx (Bi ++ (Wt ++ (Wk ++ We))) I1 F1 σ H1 (loopK g vs ft fk fe ys (ds.drop (i + 1)) Γ') k := by
          intro I3 F3 Γ3 H3 acc' ys' sa3 s3 e3 r3 l3 g3 H4 eH
          subst eH
          obtain ⟨_, m1, m2⟩ := keepD s3 hd2 n1 nFa
          have s03 : Stp (Wt ++ (Wk ++ We)) I' F' H' I3 F3 H3 := ((Stp.grow (W := Wt ++ (Wk ++ We)) sm (fun _ h => h) fun _ h => .inl h).trans sat (fun _ h => h) fun _ h => h).trans s3 (fun _ h => h) fun _ h => h
          have exB := sa'.ext (B := []) s03 (fun i h => nomatch h)
          have ex : Ext I' H' H3 := ⟨fun a o x e => exB.i a o (.inl x) e, exB.t, exB.f⟩
          have sb3 := sa'.back no sa3 ex (fun a x => s03.imo a x) la' oa
          have m2' : ∀ j, ¬ (j ∉ vs ∧ F3 j D) := fun j x => m2 j x.2
          obtain ⟨sb4, ex4⟩ := sb3.asideK (ys := acc') e3 m1 m2'
          have hl3 : Γ3.length = Γ'.length := by rw [sa3.len, la', sa'.len]
          have keepF : ∀ j, j ∉ Wt ++ (Wk ++ We) → ∀ a, F' j a → j ∉ vs ∧ F3 j a := fun j hj a x => by
            have hv : j ∉ vs := fun hv => sa'.noF (noOwn_at no hv) a x
            exact ⟨hv, s03.same j hj a x⟩
          have tot : Stp (Wt ++ (Wk ++ We)) (J I1 F1 Bi) (fun j a => j ∉ Bi ∧ F1 j a) H1 I3 F3 H3 := st.trans s03 (fun _ h => h) fun _ h => h
          refine ⟨_, I3, _, acc', ys', sb4, ⟨fun a o e n => ?_, fun j hj a x => ?_, fun j a x => tot.fre j a x.2, tot.ifr, tot.imo, fun a x => ?_⟩, upd_same, m1, m2', ?_, ?_, l3, g3⟩
          · have ne : a ≠ D := fun z => by
              subst z
              rw [hD] at e; cases e
            rw [upd_ne ne]
            exact tot.keep a o e n
          · refine ⟨fun hv => ?_, tot.same j hj a x⟩
            exact (fun z => sa'.noF (noOwn_at no hv) a z) (st.same j hj a x)
          · by_cases ne : a = D
            · subst ne; exact hD
            · rw [upd_ne ne] at x
              exact tot.dom a x
          · refine r3.ext ⟨fun a o x e => ?_, ex4.t, ex4.f⟩ fun _ h => h
            rcases x with x | ⟨j, _, x⟩
            · exact ex4.i a o x e
            · rw [upd_ne (show a ≠ D from fun z => m2' j (z ▸ x))]; exact e
          · rcases noB Γ3 with z | z
            · exact z
            · exact (z hl3).elim
        have baseReps : ∀ {I3 : Addr → Prop} {F3 : Fps} {H3 : Hp}, Stp (Wt ++ (Wk ++ We)) I' Fa H'' I3 F3 H3 → RepK R (J I3 (fun i a => i ∉ vs ∧ F3 i a) Be) H3 acc ys := by
          intro I3 F3 H3 s3
          have s03 : Stp (Wt ++ (Wk ++ We)) I' F' H' I3 F3 H3 := ((Stp.grow (W := Wt ++ (Wk ++ We)) sm (fun _ h => h) fun _ h => .inl h).trans sat (fun _ h => h) fun _ h => h).trans s3 (fun _ h => h) fun _ h => h
          refine rs.ext (sa'.ext s03 hB) fun a x => ?_
          rcases x with x | ⟨j, hj, x⟩
          · exact .inl (s03.imo a x)
          · exact .inr ⟨j, hj, fun hv => sa'.noF (noOwn_at no hv) a x, s03.same j (hB j hj) a x⟩
        cases et : ft Γa with
        | bad => simp only [et] at g'; exact g'.elim
        | exc x Γb => simp only [et] at g'; exact g'.elim
        | ok kt Γb =>
          simp only [et] at g'
          intro I3 F3 H3 sa3 s3
          have s3' : Stp (Wt ++ (Wk ++ We)) I' Fa H'' I3 F3 H3 := s3.mono fun j h => List.mem_append_left _ h
          obtain ⟨d3, m1, m2⟩ := keepD s3 hd2 n1 nFa
          cases kt with
          | false =>
            rw [if_neg Bool.false_ne_true] at g'
            have e4 : H3 = upd H3 D (.dK acc) := (funext fun a => by
              by_cases z : a = D
              · subst z; rw [upd_same, d3]
              · rw [upd_ne z])
            have q := again acc ys sa3 s3' d3 (baseReps s3') (by omega) g' H3 e4
            exact q
          | true =>
            rw [if_pos rfl] at g'
            refine ⟨Γb, I3, F3, sa3, ?_⟩
            cases ek : fk Γb with
            | bad => simp only [ek] at g'; exact g'.elim
            | exc x Γc => simp only [ek] at g'; exact g'.elim
            | ok y Γc =>
              simp only [ek] at g'
              intro I4 F4 H4 sa4 s4 v rv
              cases eky : keyD y with
              | none => simp only [eky] at g'; exact g'.elim
              | some ky =>
                simp only [eky] at g'
                obtain rfl := rv.key eky
                obtain ⟨d4, p1, p2⟩ := keepD s4 d3 m1 m2
                have goal : tD R Wf fe Be We σa H4 (fun z H5 => ∃ kvs k', kV ky = kV k' ∧ H5 D = some (.dK kvs) ∧ kvs.length < sizeLine ∧ ∃ Γ' I' F' acc' ys, SA R I' F' Γ' σ (upd H5 D (.dK (putK kvs k' z))) ∧ Stp (Wt ++ (Wk ++ We)) (J I1 F1 Bi) (fun j a => j ∉ Bi ∧ F1 j a) H1 I' F' (upd H5 D (.dK (putK kvs k' z))) ∧
                    (upd H5 D (.dK (putK kvs k' z))) D = some (.dK acc') ∧ ¬ I' D ∧ (∀ j, ¬ F' j D) ∧ RepK R (J I' F' Be) (upd H5 D (.dK (putK kvs k' z))) acc' ys ∧ noOwn vs Γ' = true ∧
                    acc'.length ≤ i + 1 ∧ Go R Wx (Bi ++ (Wt ++ (Wk ++ We))) I1 F1 σ H1 (loopK g vs ft fk fe ys (ds.drop (i + 1)) Γ') k) := by
                  refine ⟨Γc, I4, F4, sa4, ?_⟩
                  cases ee : fe Γc with
                  | bad => simp only [ee] at g'; exact g'.elim
                  | exc x Γd => simp only [ee] at g'; exact g'.elim
                  | ok z Γd =>
                    simp only [ee] at g'
                    intro I5 F5 H5 sa5 s5 w rw_
                    obtain ⟨d5, q1, q2⟩ := keepD s5 d4 p1 p2
                    have s5' : Stp (Wt ++ (Wk ++ We)) I' Fa H'' I5 F5 H5 := (s3.trans (W := Wt ++ (Wk ++ We)) s4 (fun j h => List.mem_append_left _ h) fun j h => List.mem_append_right _ (List.mem_append_left _ h)).trans s5 (fun _ h => h) fun j h => List.mem_append_right _ (List.mem_append_right _ h)
                    refine ⟨acc, ky, rfl, d5, by omega, ?_⟩
                    have rv' : Rep R (J I5 (fun i a => i ∉ vs ∧ F5 i a) Be) H5 w z := by
                      refine rw_.reg fun a x => ?_
                      rcases x with x | ⟨j, hj, x⟩
                      · exact .inl x
                      · exact .inr ⟨j, hj, hBv j hj, x⟩
                    exact again (putK acc ky w) (putD ys ky z) sa5 s5' d5 ((baseReps s5').put rv') (by have := length_putK acc ky w; omega) g' _ rfl
                exact goal
    · rintro H' ⟨Γ', I', F', acc, ys, sa', st, hd, n1, n2, rs, no, le, g'⟩
      rw [List.drop_length] at g'
      have g' : Go R Wx (Bi ++ (Wt ++ (Wk ++ We))) I1 F1 σ H1 (.ok ys Γ') k := g'
      exact fin ys Γ' I1 F1 H1 I' F' H' D acc Γ1 sa1 s1.dom g' hD sa' st hd n1 n2 rs
  · exact g1.elim
/-- own -/
theorem dk_own {fi : M (List D)} {g : AsT} {ft : M Bool} {fk fe : M D} {σ : L2.St} {H : Hp} {Q : VK} (hT : ∀ i ∈ T, i ∈ vs) (hW : ∀ i ∈ Wt ++ (Wk ++ We), i ∉ vs) (hB : ∀ i ∈ Be, i ∉ Wt ++ (Wk ++ We)) (hBv : ∀ i ∈ Be, i ∉ vs)
    (h : tDX R Wx (fun Γ => (mDcC Bi fi g vs ft fk fe Γ).bind fun ys Γ1 => .ok (.own (.dct ys)) Γ1) Be (Wi ++ (Bi ++ (Wt ++ (Wk ++ We)))) σ H Q) : tDc (tDI R Wx fi Bi Wi) (tDG R T g) (tDT R Wf ft Wt) (tD R Wf fk Bk Wk) (tD R Wf fe Be We) vs σ H Q := by
  obtain ⟨Γ, I, F, sa, q⟩ := h
  refine dk_core (Bi := Bi) (k := fun ys Γ' I' F' H' => kX R Be (Wi ++ (Bi ++ (Wt ++ (Wk ++ We)))) F H Q (.own (.dct ys)) Γ' I' F' H') hT hW hB hBv sa ?_ ?_
  · have q : Go R Wx (Wi ++ (Bi ++ (Wt ++ (Wk ++ We)))) I F σ H ((mDcC Bi fi g vs ft fk fe Γ).bind fun ys Γ1 => .ok (.own (.dct ys)) Γ1) (kX R Be (Wi ++ (Bi ++ (Wt ++ (Wk ++ We)))) F H Q) := q
    cases e1 : mDcC Bi fi g vs ft fk fe Γ with
    | bad => rw [e1] at q; exact q
    | exc x Γ1 => rw [e1] at q; exact q
    | ok ys Γ1 =>
      rw [e1] at q
      exact fun I' F' H' sa' s' => q I' F' H' sa' s'
  · intro ys Γ' I1 F1 H1 I2 F2 H2 D xs Γ1 sa1 dom2 g1 hD sa2 s2 e2 nI nF rs
    have s1 : Stp (Bi ++ (Wt ++ (Wk ++ We))) I1 F1 H1 (J I1 F1 Bi) (fun j a => j ∉ Bi ∧ F1 j a) H1 := ⟨fun _ _ h _ => h, fun i hi a x => ⟨fun z => hi (List.mem_append_left _ z), x⟩, fun i a x => .inr (.inl x.2), fun a x => by
      rcases x with x | ⟨j, hj, x⟩
      · exact .inl x
      · exact .inr (.inl ⟨j, List.mem_append_left _ hj, x⟩), fun _ x => .inl x, fun _ x => x⟩
    have s3 := s1.trans (W := Bi ++ (Wt ++ (Wk ++ We))) s2 (fun _ h => h) fun i h => List.mem_append_right _ h
    refine g1 I2 F2 H2 sa2 s3 (.ref D) ⟨fun a => a = D, ⟨D, xs, rfl, e2, rs, fun _ => .rfl⟩, fun a e => ?_⟩
    subst e
    exact ⟨⟨nI, nF, _, e2, (fun _ e => nomatch e), fun _ _ e => nomatch e⟩, .inr (dom2 a hD)⟩
def mDcX (Bi : List Nat) (fi : M (List D)) (g : AsT) (vs : List Nat) (ft : M Bool) (fk fe : M D) : M D := fun Γ => (mDcC Bi fi g vs ft fk fe Γ).bind fun ys Γ1 => .ok (.own (.dct ys)) Γ1
theorem dx_dc {scope : Scope} {own : List (Str × Nat)} {vs : List Nat} {fi : M (List D)} {g : AsT} {ft : M Bool} {fk fe : M D} (hc : X.calm = true) (hN : X.N.Nodup) (hi : PI X tg iter (tDI R Wx fi Bi Wi)) (ok : BlkOk X.N X.env.scope scope own)
    (hg : ∀ (s : Shared) (H : Hp) (C : Addr) (cl : List (Str × Addr)) (fp : List Addr), PG (X.blk s H scope (compEnvC scope cl C X.env) fp) tg (tDG R T g)) (ht : ∀ (s : Shared) (H : Hp) (C : Addr) (cl : List (Str × Addr)) (fp : List Addr), PTs (X.blk s H scope (compEnvC scope cl C X.env) fp) ifs (tDT R Wf ft Wt))
    (hk : ∀ (s : Shared) (H : Hp) (C : Addr) (cl : List (Str × Addr)) (fp : List Addr), PE (X.blk s H scope (compEnvC scope cl C X.env) fp) kx (tD R Wf fk Bk Wk)) (he : ∀ (s : Shared) (H : Hp) (C : Addr) (cl : List (Str × Addr)) (fp : List Addr), PE (X.blk s H scope (compEnvC scope cl C X.env) fp) vx (tD R Wf fe Be We)) (hv : own.map (·.2) = vs := by rfl)
    (hT : ∀ i ∈ T, i ∈ vs := by decide) (hW : ∀ i ∈ Wt ++ (Wk ++ We), i ∉ vs := by decide) (hB : ∀ i ∈ Be, i ∉ Wt ++ (Wk ++ We) := by decide) (hBv : ∀ i ∈ Be, i ∉ vs := by decide) (hs : ∀ x, foldedSetIterable iter X.env x = pure x := by intro _; rfl) :
    PE X (.DictComp kx vx [⟨tg, iter, ifs, 0⟩] scope pos) (tDX R Wx (mDcX Bi fi g vs ft fk fe) Be (Wi ++ (Bi ++ (Wt ++ (Wk ++ We))))) := by
  subst hv
  exact PE.imp (pe_dc hc hN hi ok hg ht hk he hs) fun σ H Q h => dk_own hT hW hB hBv h
end
end Dl
/-! DK20: sets of texts, made. -/
namespace Dl
open PySem PySem.Spec PyProof.Rows L2
def ddA (acc : List Str) (v : Str) : List Str := if acc.any (· == v) = true then acc else acc ++ [v]
def ddS (l : List Str) : List Str := l.foldl ddA []
theorem ddA_any (acc : List Str) (v k : Str) : (ddA acc v).any (· == k) = (acc.any (· == k) || decide (k = v)) := by
  unfold ddA
  by_cases e : k = v
  · subst e
    by_cases h : acc.any (· == k) = true
    · rw [if_pos h, h]; rfl
    · rw [if_neg h]; simp
  · have hb : (v == k) = false := beq_eq_false_iff_ne.mpr fun z => e z.symm
    split <;> simp [e, hb]
theorem ddA_len (acc : List Str) (v : Str) : (ddA acc v).length = if acc.any (· == v) = true then acc.length else acc.length + 1 := by
  unfold ddA; split <;> simp
theorem ddS_take {l : List Str} {i : Nat} (h : i < l.length) : ddS (l.take (i + 1)) = ddA (ddS (l.take i)) l[i] := by
  unfold ddS
  rw [List.take_succ, List.foldl_append, List.getElem?_eq_getElem h]; rfl
theorem ddS_le (l : List Str) : (ddS l).length ≤ l.length := by
  suffices h : ∀ (l acc : List Str), (l.foldl ddA acc).length ≤ acc.length + l.length by simpa [ddS] using h l []
  intro l
  induction l with
  | nil => intro acc; simp
  | cons v l ih =>
    intro acc
    have h1 := ih (ddA acc v)
    have h2 := ddA_len acc v
    rw [List.foldl_cons, List.length_cons]
    split at h2 <;> omega
section
variable {prog : Program} {w : World} {A : Around} {R : Result → Shared → Prop} {J : Addr} {fp wr : List Addr} {G : Array GenState → Array GenState → Prop} {n : Nat} {P : Nat → Value → Prop} {T : Nat → Shared → Prop}
theorem loopT (W : WalksS prog w A.in1 J fp wr G n P T) (c : Addr) (hc : c ∉ fp) (ws : List Str) (hn : ws.length = n) (hb : n + 1 < scanBound)
    (at' : ∀ i v, P i v → ∃ t, v = .str (ws.getD i Str.empty) t) : ∀ (k i : Nat) (s : Shared), i + k = n → T i s → s.heap.SetOf (PySem.strKind prog w) c (fun x => (ddS (ws.take i)).any (· == x)) (ddS (ws.take i)).length →
      (∀ u, Moved (c :: wr) G s u → u.heap.SetOf (PySem.strKind prog w) c (fun x => (ddS ws).any (· == x)) (ddS ws).length → R (.ok (.ret .none)) u) →
      codeAny (model prog w) A (.builtin "set.update.loop" ⟨[.ref c, .ref J], []⟩) R s := by
  have hw : c ∉ wr := fun h => hc (W.sub _ h)
  intro k
  induction k with
  | zero =>
    intro i s hk ht hS hR
    obtain rfl : i = n := hk
    refine codeAny_builtin F.entry_set_update_loop (by
      rw [Around.under_plainId F.plain_set_update_loop _]
      show wpAny _ A.in1 (pyNext (.ref J) >>= _) _ _ s
      refine wpAny_bind (W.done s _ _ ht fun u hm => ?_)
      refine (show wpAny _ A.in1 (ret Value.none) _ _ u from wpAny_pure (hR u (hm.mono fun b h => List.mem_cons_of_mem _ h) ?_))
      rw [← hn, List.take_length] at hS
      obtain ⟨o, es, ep, tb, ho, more⟩ := hS
      exact ⟨o, es, ep, tb, hm.heap c _ hw ho, more⟩)
  | succ k ih =>
    intro i s hk ht hS hR
    have hi : i < n := by omega
    have hl : i < ws.length := by omega
    refine codeAny_builtin F.entry_set_update_loop ?_
    rw [Around.under_plainId F.plain_set_update_loop _]
    show wpAny _ A.in1 (pyNext (.ref J) >>= _) _ _ s
    refine wpAny_bind (W.item i s _ _ hi ht fun v u hP ht' hm => ?_)
    obtain ⟨t, rfl⟩ := at' i v hP
    have e : ws.getD i Str.empty = ws[i] := by rw [List.getD_eq_getElem?_getD, List.getElem?_eq_getElem hl]; rfl
    rw [e]
    have hS1 : u.heap.SetOf (PySem.strKind prog w) c (fun x => (ddS (ws.take i)).any (· == x)) (ddS (ws.take i)).length := by
      obtain ⟨o, es, ep, tb, ho, more⟩ := hS
      exact ⟨o, es, ep, tb, hm.heap c _ hw ho, more⟩
    show wpAny _ A.in1 (holding [Value.str ws[i] t] (setAdd c (.str ws[i] t)) >>= _) _ _ u
    refine wpAny_bind (wpAny_holding ?_)
    unfold setAdd
    refine wpAny_holding (wpAny_bind ((PySem.strKind prog w).pyHash (k := ws[i]) (strKind_is _ _ _ _) ?_))
    have hroom : (ddS (ws.take i)).length + 1 < scanBound := by
      have h1 := ddS_le (ws.take i)
      have h2 := List.length_take_le i ws
      omega
    refine wpAny_setAddHashed_of (s := { u with toks := u.toks + 1 }) (knd := PySem.strKind prog w) (strKind_is _ _ _ _) rfl hS1 hroom fun h2 hsb hS2 => ?_
    have hS3 : h2.SetOf (PySem.strKind prog w) c (fun x => (ddS (ws.take (i + 1))).any (· == x)) (ddS (ws.take (i + 1))).length :=
      SetOf_congr hS2 (fun x => by rw [ddS_take hl, ddA_any]) (by rw [ddS_take hl, ddA_len])
    refine wpAny_pure ⟨plainId_quiet F.plain_set_update_loop _, ih (i + 1) _ (by omega) (W.frame _ u _ _ ht' (Nat.le_succ _) fun b hb o e => ?_) hS3 fun u2 hm2 hS4 => ?_⟩
    · rw [hsb.2 b fun z => hc (z ▸ hb)]; exact e
    · refine hR u2 (Moved.trans W.gtrans ((hm.mono fun b h => List.mem_cons_of_mem _ h).then_heap (Nat.le_succ _) fun b o hb e => ?_) hm2) hS4
      rw [hsb.2 b fun z => hb (z ▸ List.mem_cons_self)]; exact e
end
section
variable {prog : Program} {w : World} {A : Around} {E : Value → Shared → Prop} {s : Shared}
set_option maxHeartbeats 3200000 in
theorem setOfStrs {l : Addr} {its : Array Value} {ws : List Str} {Q : Value → Shared → Prop}
    (hh : A.handled = none) (hl : s.heap.IsList l its) (hi : StrsAre its.toList ws) (hb : ws.length + 1 < scanBound)
    (h : ∀ (h' : Heap) (tk : Nat), h'.SetOf (PySem.strKind prog w) s.heap.objs.size (fun x => (ddS ws).any (· == x)) (ddS ws).length →
      (∀ b o, b < s.heap.objs.size → s.heap.get? b = some o → h'.get? b = some o) → Q (.ref s.heap.objs.size) { s with heap := h', toks := tk }) :
    wpAny (model prog w) A (call (.type "set") [.ref l]) Q E s := by
  obtain ⟨_, _, m0⟩ := PySem.F.called_set.mro
  have m1 := PySem.F.called_set.made
  have m2 := PySem.F.called_set.sub
  have m3 := PySem.F.called_set.notType
  have m4 := PySem.F.called_set.canCreate
  have m5 := PySem.F.typeCall_set_1 (.ref l)
  refine wpAny_call (codeAny_of_tree (show wpAny _ _ (callAny (.type "set") _) _ _ _ from wpAny_pure ⟨Code.quiet_builtin _ (by decide +kernel), codeAny_builtin PySem.F.entry_type_call ?_⟩))
  rw [Around.under_plain (weight_type_call_type "set" [.ref l] []) rfl]
  repeat (any_goals (first | assumption | wp_step))
  refine codeAny_mono (code_set_new_1 (.ref l) (E := E) (Q₁ := fun o u => ∃ b : Bool, o = .ref s.heap.objs.size ∧ u = { s with heap := s.heap.push { cls := .type "set", dict := none, data := .set #[] 0 (.fresh 0 0 b) } }) fun b => ⟨b, rfl, rfl⟩) fun r u hr => ?_
  cases r with
  | error e => exact hr
  | ok fl =>
    cases fl with
    | ret o =>
      obtain ⟨b, rfl, rfl⟩ := hr
      have g0 : (s.heap.push { cls := .type "set", dict := none, data := .set #[] 0 (.fresh 0 0 b) }).get? s.heap.objs.size = some { cls := .type "set", dict := none, data := .set #[] 0 (.fresh 0 0 b) } := Heap.get?_push_size _ rfl
      have g1 : Shared.TypeIs { s with heap := s.heap.push { cls := .type "set", dict := none, data := .set #[] 0 (.fresh 0 0 b) } } (.ref s.heap.objs.size) "set" := ⟨_, g0, rfl⟩
      have g2 := PySem.F.called_set.init.lookup
      have g3 := PySem.F.called_set.init.bind (.ref s.heap.objs.size)
      repeat (any_goals (first | assumption | wp_step))
      refine codeAny_mono (codeAny_call_builtin (R := wants (fun r u2 => r = .none ∧ ∃ h' tk, u2 = { s with heap := h', toks := tk } ∧ h'.SetOf (PySem.strKind prog w) s.heap.objs.size (fun x => (ddS ws).any (· == x)) (ddS ws).length ∧
          (∀ b o, b < s.heap.objs.size → s.heap.get? b = some o → h'.get? b = some o)) E) PySem.F.called_set.init.plain PySem.F.entry_set_init (check_set_init_1 g1 ?_)) fun r2 u2 hr2 => ?_
      · obtain ⟨⟨kc, kd, kt, ks⟩, ho, c1, nl, c2⟩ := hl
        simp only at c1 c2
        subst c1 c2
        have ho1 : (s.heap.push { cls := .type "set", dict := none, data := .set #[] 0 (.fresh 0 0 b) }).get? l = some { cls := .type "list", dict := kd, data := .seq its nl, slots := ks } := Heap.get?_push_of_some _ ho
        have f1 := PySem.F.sub_list_set
        have f2 := PySem.F.sub_list_frozenset
        have f3 : (Value.type "list" == Value.type "dict") = false := by decide
        have hl1 : (s.heap.push { cls := .type "set", dict := none, data := .set #[] 0 (.fresh 0 0 b) }).IsList l its := ⟨_, ho1, rfl, nl, rfl⟩
        unfold Builtin.«set.__init__» noKeywords Builtin.Frozenset.updateFrom
        generalize hg : pyIter = gi
        wp_walk
        subst hg
        refine wpAny_pyIter_list hl1 (wpAny_bind (wpAny_runValue ?_))
        have hlt : l < s.heap.objs.size := Heap.lt_size ho
        have hz : (s.heap.push { cls := .type "set", dict := none, data := .set #[] 0 (.fresh 0 0 b) }).objs.size = s.heap.objs.size + 1 := Heap.size_push _ _
        have hn : l ≠ (s.heap.push { cls := .type "set", dict := none, data := .set #[] 0 (.fresh 0 0 b) }).objs.size := by rw [hz]; exact Nat.ne_of_lt (Nat.lt_succ_of_lt hlt)
        have hf : s.heap.objs.size ∉ [(s.heap.push { cls := .type "set", dict := none, data := .set #[] 0 (.fresh 0 0 b) }).objs.size, l] := by
          rw [hz]
          simp only [List.mem_cons, List.not_mem_nil, or_false, not_or]
          exact ⟨Nat.ne_of_lt (Nat.lt_succ_self _), fun z => Nat.lt_irrefl _ (z ▸ hlt)⟩
        have hsz : ws.length = its.size := by rw [← StrsAre.len_eq hi, Array.length_toList]
        refine loopT ((Walks.list (by simp [hh]) _ l hn its).toS) s.heap.objs.size hf ws hsz (by rw [← hsz]; exact hb)
          (fun i v hv => SS.strs_at hi i v (by rw [Array.getElem?_toList]; exact hv)) its.size 0 _ (by omega) ⟨⟨_, Heap.get?_push_size _ rfl, rfl, rfl⟩, hl1.push _⟩ ?_ ?_
        · have g5 : ((s.heap.push { cls := .type "set", dict := none, data := .set #[] 0 (.fresh 0 0 b) }).push { cls := .type "list_iterator", data := .fields #[.ref l, .int 0 0] }).get? s.heap.objs.size
              = some { cls := .type "set", dict := none, data := .set #[] 0 (.fresh 0 0 b) } := Heap.get?_push_of_some _ g0
          exact SetOf_congr ((setObjOf_fresh (knd := PySem.strKind prog w) b).setOf g5 (by unfold scanBound; omega)) (fun _ => rfl) rfl
        · rintro ⟨h', g', d', tk', os'⟩ hm hS
          obtain rfl : g' = s.gens := hm.gens
          obtain rfl : d' = s.drawn := hm.drawn
          obtain rfl : os' = s.os := hm.os
          refine (show wpAny _ _ _ _ _ _ from wpAny_pure (show wpAny _ _ (ret Value.none) _ _ _ from wpAny_pure ⟨rfl, h', tk', rfl, hS, fun x o hx e => ?_⟩))
          refine hm.heap x o ?_ (Heap.get?_push_of_some _ (Heap.get?_push_of_some _ e))
          rw [hz]
          simp only [List.mem_cons, List.not_mem_nil, or_false, not_or]
          exact ⟨Nat.ne_of_lt hx, Nat.ne_of_lt (Nat.lt_succ_of_lt hx)⟩
      · cases r2 with
        | error e => exact hr2
        | ok f2 =>
          cases f2 with
          | ret r =>
            obtain ⟨rfl, h', tk, rfl, hS, hk⟩ := hr2
            repeat (any_goals (first | assumption | wp_step))
            exact h _ _ hS hk
          | _ => exact hr2.elim
    | _ => exact hr.elim
end
end Dl
/-! DL20: sets of texts. -/
namespace Dl
open PySem PySem.Spec PyProof.Rows L2
/-! ### len(set(xs)) -/
def strOf : D → Option Str
  | .str x => some x
  | _ => none
def lenSetD : D → Option D
  | .lst l => (l.mapM strOf).bind fun xs => if xs.length ≤ 4000 then some (.int (ddS xs).length) else none
  | _ => none
def mLenSet (f : M D) : M D := fun Γ => (f Γ).bind fun x Γ1 => match lenSetD x with
  | some z => .ok z Γ1
  | none => .bad
theorem Reps.strs {R : RX} {I : Addr → Prop} {H : Hp} : ∀ {vs : List V} {ds : List D} {xs : List Str}, Reps R I H vs ds → ds.mapM strOf = some xs → vs = xs.map V.str
  | _, _, xs, .nil, e => by
    rw [List.mapM_nil] at e
    cases e
    rfl
  | _, d :: ds, xs, .cons r t, e => by
    rw [List.mapM_cons] at e
    obtain ⟨x, e1, e⟩ := Option.bind_eq_some_iff.mp e
    obtain ⟨ys, e2, e⟩ := Option.bind_eq_some_iff.mp e
    cases e
    rw [List.map_cons, ← Reps.strs t e2]
    cases d <;> first | (cases e1; done) | skip
    cases e1
    cases r
    rfl
def tLenSetD (K : PySem.W.Frag) (ta : TE) : TE := fun σ H Q => ta σ H fun x H1 => ∃ l, ∃ xs : List Str, x = .ref l ∧ SqL K H1 l (xs.map V.str) ∧ xs.length ≤ 4000 ∧ Q (.int (ddS xs).length) H1
theorem pe_lenSetD {X : Cx} {a : Expr} {ta : TE} {p p2 q pos : Pos} (hc : X.calm = true) (hg : Gl X "len") (hm : X.mg "len" = none) (hg2 : Gl X "set") (hm2 : X.mg "set" = none) (ha : PE X a ta)
    (na : starEach [a] X.env = (false, eval a X.env) :: starEach [] X.env := by rfl) : PE X (.Call (.Name "len" p) [.Call (.Name "set" p2) [a] [] q] [] pos) (tLenSetD X.K ta) := ⟨fun pins s σ H Q I h => by
  refine Call_ (ld_blt I hg hm boot_len (callWith_builtin1 (args_cons (Call_ (ld_blt I hg2 hm2 boot_set (callWith_type1 (args_cons (thn (ha.run pins s σ H _ I h) fun v s1 ⟨x, H1, I1, r1, l, xs, ex, hq, hb, q1⟩ => args_nil ?_) na) na rfl))) rfl) rfl rfl))
  subst ex
  cases r1
  obtain ⟨its, r, pl, hz⟩ := I1.list hq
  refine setOfStrs (I1.ok.hd hc) pl.isList (ws := xs) (by simpa using strsAre_of r) (by unfold scanBound; omega) fun h' tk hS hk => args_nil ?_
  obtain ⟨o, es, ep, t, ho, hex, hd, _, _, _, hf, hn⟩ := hS
  have I2 : Inv X pins σ H1 { s1 with heap := h', toks := tk } := I1.kept fun b o e => hk b o (Heap.lt_size e) e
  have := ddS_le xs
  exact call_len_set ho hex hd hf (by rw [hn]; omega) ⟨.int (ddS xs).length, H1, I2.tok _, ⟨_, by rw [hn]⟩, q1⟩⟩
section
variable {X : Cx} {R : RX} {Wx : WX} {W B : List Nat} {a : Expr} {q pos : Pos}
theorem de_lenSet {f : M D} {p p2 : Pos} (hc : X.calm = true) (hg : Gl X "len") (hm : X.mg "len" = none) (hg2 : Gl X "set") (hm2 : X.mg "set" = none) (ha : PE X a (tD R Wx f B W))
    (na : starEach [a] X.env = (false, eval a X.env) :: starEach [] X.env := by rfl) : PE X (.Call (.Name "len" p) [.Call (.Name "set" p2) [a] [] q] [] pos) (tD R Wx (mLenSet f) B W) :=
  PE.imp (pe_lenSetD hc hg hm hg2 hm2 ha na) fun σ H Q ⟨Γ, I, F, sa, g⟩ => by
    refine ⟨Γ, I, F, sa, (g.bind (W1 := W) (W2 := []) (fun i h => h) (fun i h => nomatch h)).imp fun x Γ1 I1 F1 H1 sa1 s1 g1 v rv => ?_⟩
    cases e : lenSetD x with
    | none => rw [e] at g1; exact g1.elim
    | some z =>
      rw [e] at g1
      cases x <;> first | (cases e; done) | skip
      obtain ⟨xs, e1, e2⟩ := Option.bind_eq_some_iff.mp e
      split at e2
      · rename_i hz
        cases e2
        cases rv with
        | lst h1 h2 t =>
          rw [t.strs e1] at h2
          exact ⟨_, xs, rfl, .of h2, hz, here2 (g1.fin sa1) (.int _)⟩
      · cases e2
end
end Dl
/-! DL21: tables whose keys are None, True, False. -/
namespace Dl
open PySem PySem.Spec PyProof.Rows L2
def obIs : Option Bool → Value → Bool
  | none, .none => true
  | some a, .bool b => a == b
  | _, _ => false
theorem obIs_shape {k : Option Bool} {v : Value} (h : obIs k v = true) : (k = none ∧ v = .none) ∨ ∃ b, k = some b ∧ v = .bool b := by
  cases k with
  | none => cases v <;> first | exact .inl ⟨rfl, rfl⟩ | exact nomatch (show false = true from h)
  | some a => cases v <;> first | exact .inr ⟨a, rfl, by rw [eq_of_beq (show (a == _) = true from h)]⟩ | exact nomatch (show false = true from h)
def obKind (prog : Program) (w : World) : PySem.KeyKind prog w (Option Bool) where
  is := obIs
  hash := fun k => match k with
    | none => reduceHash 0xFCA86420
    | some true => reduceHash 1
    | some false => reduceHash 0
  inj := fun v a b ha hb => by
    rcases obIs_shape ha with ⟨rfl, rfl⟩ | ⟨x, rfl, rfl⟩ <;> rcases obIs_shape hb with ⟨rfl, e⟩ | ⟨y, rfl, e⟩ <;> cases e <;> rfl
  byValue := fun k v h => by rcases obIs_shape h with ⟨rfl, rfl⟩ | ⟨x, rfl, rfl⟩ <;> rfl
  pyHash := @fun A E s k v Q hv h => by
    rcases obIs_shape hv with ⟨rfl, rfl⟩ | ⟨x, rfl, rfl⟩
    · exact PySem.W.pyHash_slot (T := "NoneType") rfl PySem.F.slot_NoneType_hash PySem.F.entry_NoneType_hash (PySem.F.args_NoneType_hash_1 _) (beq_builtin_none _) (.inl rfl) (wpAny_bind (wpAny_pure (wpAny_bind (wpAny_mkInt (wpAny_pure ⟨_, _, rfl, h⟩)))))
    · refine PySem.W.pyHash_slot (T := "bool") rfl PySem.F.slot_bool_hash entry_int_hash (args_int_hash _) (beq_builtin_none _) (.inl rfl) ?_
      cases x
      · exact (show wpAny _ _ (do ret (← mkInt 0)) _ _ s from wpAny_bind (wpAny_mkInt (wpAny_pure ⟨_, _, rfl, h⟩)))
      · exact (show wpAny _ _ (do ret (← mkInt 1)) _ _ s from wpAny_bind (wpAny_mkInt (wpAny_pure ⟨_, _, rfl, h⟩)))
  eqBool := @fun A E s a b u v Q hu hv h => by
    rcases obIs_shape hu with ⟨rfl, rfl⟩ | ⟨x, rfl, rfl⟩ <;> rcases obIs_shape hv with ⟨rfl, rfl⟩ | ⟨y, rfl, rfl⟩
    · exact SeqAt.EqAt.same _ _ _ _ _ (by simpa using h)
    · exact SeqAt.EqAt.none_bool y _ _ _ _ (by simpa using h)
    · exact SeqAt.EqAt.bool_none x _ _ _ _ (by simpa using h)
    · refine SeqAt.EqAt.bool_bool x y _ _ _ _ ?_
      have e : decide (some x = some y) = (x == y) := by cases x <;> cases y <;> rfl
      rw [e] at h
      exact h
  «strs» := fun k x t v h => by
    rcases obIs_shape h with ⟨_, e⟩ | ⟨_, _, e⟩ <;> cases e
/-! the table of constants -/
def obV : Option Bool → V
  | none => .non
  | some b => .bl b
theorem obV_is {k : Option Bool} {v : Value} (h : RelV (obV k) v) : obIs k v = true := by
  cases k with
  | none => obtain rfl : v = .none := h; rfl
  | some b => obtain rfl : v = .bool b := h; exact beq_self_eq_true b
abbrev OB : List (Option Bool × V) → List (Option Bool × Value) → Prop := Paired fun p q => p.1 = q.1 ∧ RelV p.2 q.2
def obO (P : Program) (w : World) (p : Addr) (cs : List (Option Bool × V)) : HO := .ext fun h => (p == sysModules) = false ∧ ∃ vs, OB cs vs ∧ h.DictOf (obKind P w) p vs
theorem carries_ob {P : Program} {w : World} : ∀ {cs : List (Option Bool × V)} {ws : List (Value × Value)}, VV (cs.map fun kv => (obV kv.1, kv.2)) ws → ∃ rs, Carries (obKind P w) ws rs ∧ OB cs rs
  | [], _, r => by cases r; exact ⟨[], trivial, .nil⟩
  | c :: cs, _, r => by
    cases r with
    | @cons _ b _ bs h t =>
      obtain ⟨rs, c1, q⟩ := carries_ob (P := P) (w := w) t
      exact ⟨(c.1, b.2) :: rs, ⟨obV_is h.1, rfl, c1⟩, .cons ⟨rfl, h.2⟩ q⟩
theorem merged_nodup {K : Type} [DecidableEq K] : ∀ (rs acc : List (K × Value)), ((acc ++ rs).map (·.1)).Nodup → merged acc rs = acc ++ rs
  | [], acc, _ => by rw [List.append_nil]; rfl
  | r :: rs, acc, h => by
    have e : stored acc r.1 r.2 = acc ++ [r] := by
      unfold stored
      rw [if_neg]
      intro z
      obtain ⟨x, hx, e⟩ := List.any_eq_true.mp z
      rw [List.map_append, List.nodup_append] at h
      exact h.2.2 x.1 (List.mem_map_of_mem hx) r.1 (by simp) (of_decide_eq_true e)
    show merged (stored acc r.1 r.2) rs = _
    rw [e, merged_nodup rs (acc ++ [r]) (by simpa using h)]
    simp
theorem OB.keys : ∀ {cs : List (Option Bool × V)} {rs : List (Option Bool × Value)}, OB cs rs → rs.map (·.1) = cs.map (·.1)
  | _, _, .nil => rfl
  | _, _, .cons h t => by rw [List.map_cons, List.map_cons, OB.keys t, h.1]
theorem OB.val {k : Option Bool} : ∀ {cs : List (Option Bool × V)} {rs : List (Option Bool × Value)}, OB cs rs → RelO ((cs.find? fun c => decide (c.1 = k)).map (·.2)) (valueAt rs k)
  | _, _, .nil => trivial
  | _, _, .cons (a := c) (b := r) h t => by
    have ih := OB.val (k := k) t
    unfold valueAt at ih ⊢
    rw [List.find?_cons, List.find?_cons, h.1]
    by_cases e : r.1 = k
    · simp only [e, decide_true]
      exact h.2
    · simp only [e, decide_false]
      exact ih
def cols (cs : List (Option Bool × V)) : List (TE × TE) := cs.map fun c => (tC (obV c.1), tC c.2)
theorem pairs_cols {σ : L2.St} {H : Hp} {Q : List (V × V) → Hp → Prop} : ∀ (cs : List (Option Bool × V)), Q (cs.map fun kv => (obV kv.1, kv.2)) H → tPairs (cols cs) σ H Q
  | [], q => q
  | c :: cs, q => pairs_cols (Q := fun ps H' => Q ((obV c.1, c.2) :: ps) H') cs q
def tDispB (P : Program) (w : World) (cs : List (Option Bool × V)) : TE := fun _ H Q => ∀ p, H p = none → Q (.ref p) (upd H p (obO P w p cs))
theorem pe_dispB {X : Cx} {pos : Pos} {keys : List (Option Expr)} {values : List Expr} {cs : List (Option Bool × V)} (h : PPs X pos keys values (cols cs)) (hn : (cs.map (·.1)).Nodup) (hall : keys.all (·.isSome) = true) (hl : keys.length = values.length) (h0 : keys ≠ [])
    (h15 : keys.length ≤ 15) : PE X (.Dict keys values pos) (tDispB X.prog X.w cs) := ⟨fun pins s σ H Q I q => by
  have fresh := I.hok.fresh (Nat.le_refl s.heap.objs.size)
  have hm : ((s.heap.objs.size == sysModules) = false) := beq_eq_false_iff_ne.mpr (Ne.symm (Nat.ne_of_lt I.big))
  have d0 : (s.heap.push { cls := .type "dict", data := .dict #[] }).DictOf (obKind X.prog X.w) s.heap.objs.size [] := Heap.DictOf.new s.heap
  have I1 : Inv X pins σ (upd H s.heap.objs.size (obO X.prog X.w s.heap.objs.size [])) { s with heap := s.heap.push { cls := .type "dict", data := .dict #[] } } := by
    refine I.laid (t' := s.toks) (fun _ _ q => Heap.get?_push_of_some _ q) (Nat.le_refl _) ⟨⟨hm, [], .nil, d0⟩, ?_, ?_⟩
    · exact ⟨_, Heap.get?_push_size _ rfl⟩
    · rintro h1 h2 ⟨a1, vs, a2, o, es, ep, a3, a4⟩ k
      exact ⟨a1, vs, a2, o, es, ep, k o a3, a4⟩
  refine wpAny_Dict_walk (knd := obKind X.prog X.w) hall hl h0 h15 (thn (h.run pins _ σ _ _ I1 (pairs_cols (Q := fun ps H' => ps = cs.map (fun kv => (obV kv.1, kv.2)) ∧ H' = upd H s.heap.objs.size (obO X.prog X.w s.heap.objs.size [])) cs ⟨rfl, rfl⟩)) fun ws s2 ⟨ps, H2, I2, rel, e1, e2⟩ => ?_)
  subst e1 e2
  obtain ⟨rs, c, rk⟩ := carries_ob (P := X.prog) (w := X.w) rel
  obtain ⟨⟨_, vs0, r0, dd⟩, _⟩ := I2.hok s.heap.objs.size _ upd_same
  cases r0
  refine ⟨rs, c, dd, fun h' dd' hs => ⟨.ref s.heap.objs.size, upd H s.heap.objs.size (obO X.prog X.w s.heap.objs.size cs), ?_, rfl, q _ fresh⟩⟩
  have he : ∃ q, h'.get? s.heap.objs.size = some q := let ⟨q, _, _, hq, _⟩ := dd'; ⟨q, hq⟩
  have hk : (([] ++ rs : List (Option Bool × Value)).map (·.1)).Nodup := by rw [List.nil_append, rk.keys]; exact hn
  rw [merged_nodup rs [] hk, List.nil_append] at dd'
  have W := I2.write (x := s.heap.objs.size) (e := s.heap.objs.size) (o := obO X.prog X.w s.heap.objs.size cs) (t' := s2.toks + ws.length) (by rw [upd_same]; exact trivial) (.inl rfl) (fun b q hb z => (hs.2 b hb).trans z) he ⟨⟨hm, rs, rk, dd'⟩, he, by
    rintro h1 h2 ⟨a1, vs, a2, o, es, ep, a3, a4⟩ k
    exact ⟨a1, vs, a2, o, es, ep, k o a3, a4⟩⟩
  rw [upd_upd] at W
  exact W⟩
/-! reading it -/
def atB (cs : List (Option Bool × V)) (k : Option Bool) : Option V := (cs.find? fun c => decide (c.1 = k)).map (·.2)
def rIxB (P : Program) (w : World) : R2 := fun x y H Q => ∃ p cs k v, x = .ref p ∧ y = obV k ∧ H p = some (obO P w p cs) ∧ atB cs k = some v ∧ Q v H
theorem ix_B {X : Cx} : IxR X (rIxB X.prog X.w) := fun value slice pins s σ H x y v u Q I rx ry ⟨p, cs, k, c, ex, ey, e, at_, q⟩ hs => by
  subst ex ey
  cases (show v = Value.ref p from rx)
  obtain ⟨⟨hd, vs, rel, dd⟩, _⟩ := I.hok p _ e
  have r := OB.val (k := k) rel
  rw [show ((cs.find? fun c => decide (c.1 = k)).map (·.2)) = some c from at_] at r
  obtain ⟨w', hw, rw'⟩ := RelO.some_of (v := c) (o := valueAt vs k) r
  exact tail_any dd.typeIs PySem.F.slot_dict_getitem.lookup (wpAny_getItem_of (obV_is ry) dd.mapOf hw ⟨c, H, I.tok _, rw', q⟩) hs
section
variable {R : RX} {Wx : WX} {W B : List Nat} {I : Addr → Prop} {F : Fps} {Γ : Env} {σ : L2.St} {H H1 : Hp}
theorem Go.over {α : Type} {o : Out α} {k : α → Env → (Addr → Prop) → Fps → Hp → Prop} {p : Addr} {O : HO} (sm : Same H H1) (hp : H p = none) (h1 : H1 p = some O) (sa : SA R I F Γ σ H) (h : Go R Wx W I F σ H o k) : Go R Wx W I F σ H1 o (fun a Γ' I' F' H' => H' p = some O ∧ k a Γ' I' F' H') := by
  have g : Stp W I F H I F H1 := .grow sm (fun _ h => h) fun _ h => .inl h
  have no : ∀ i ∈ W, ¬ F i p := fun i _ z => by
    obtain ⟨o, e, _⟩ := sa.trk i p z
    rw [hp] at e
    cases e
  cases o with
  | bad => exact h
  | exc x Γ1 => exact fun I' F' H' cls dx sa s => h I' F' H' cls dx sa (g.trans s (fun _ h => h) fun _ h => h)
  | ok a Γ1 => exact fun I' F' H' sa s => ⟨s.keep p O h1 no, h I' F' H' sa (g.trans s (fun _ h => h) fun _ h => h)⟩
def obD : D → Option (Option Bool)
  | .non => some none
  | .bl b => some (some b)
  | _ => none
theorem Rep.ob {I : Addr → Prop} {H : Hp} {v : V} {d : D} {k : Option Bool} (r : Rep R I H v d) (e : obD d = some k) : v = obV k := by
  cases d <;> first | (cases e; done) | skip
  all_goals cases e; cases r; rfl
def pickB (cs : List (Option Bool × D)) (x : D) : Option D := (obD x).bind fun k => (cs.find? fun c => decide (c.1 = k)).map (·.2)
def mPickB (cs : List (Option Bool × D)) (f : M D) : M D := fun Γ => (f Γ).bind fun x Γ1 => optO (pickB cs x) Γ1
theorem picked {cv : List (Option Bool × V)} {cs : List (Option Bool × D)} (h : Paired (fun p q => p.1 = q.1 ∧ KonV p.2 q.2) cv cs) {k : Option Bool} {z : D} (e : (cs.find? fun c => decide (c.1 = k)).map (·.2) = some z) : ∃ v, atB cv k = some v ∧ KonV v z := by
  induction h with
  | nil => cases e
  | @cons c d l m h t ih =>
    unfold atB at ih ⊢
    rw [List.find?_cons] at e ⊢
    rw [h.1]
    by_cases x : d.1 = k
    · simp only [x, decide_true] at e ⊢
      cases e
      exact ⟨c.2, rfl, h.2⟩
    · simp only [x, decide_false] at e ⊢
      exact ih e
theorem de_pickB {X : Cx} {b : Expr} {pos dpos : Pos} {keys : List (Option Expr)} {values : List Expr} {cv : List (Option Bool × V)} {cs : List (Option Bool × D)} {f : M D} (hK : R.K = X.K) (hd : PPs X dpos keys values (cols cv)) (hc : Paired (fun p q => p.1 = q.1 ∧ KonV p.2 q.2) cv cs) (hb : PE X b (tD R Wx f B W))
    (hn : (cv.map (·.1)).Nodup := by decide) (hall : keys.all (·.isSome) = true := by rfl) (hl : keys.length = values.length := by rfl) (h0 : keys ≠ [] := by exact fun h => nomatch h) (h15 : keys.length ≤ 15 := by decide) (hs : PlainIx b := by exact fun _ _ => rfl) :
    PE X (.Subscript (.Dict keys values dpos) b pos) (tD R Wx (mPickB cs f) [] W) := PE.imp (pe_ix ix_B (pe_dispB hd hn hall hl h0 h15) hb hs) fun σ H Q ⟨Γ, I, F, sa, g⟩ => by
  intro p hp
  have sm : Same H (upd H p (obO X.prog X.w p cv)) := fun a o e => by
    unfold upd
    split
    · rename_i z
      rw [z, hp] at e
      cases e
    · exact e
  have g1 := (g.bind (W1 := W) (W2 := []) (fun i h => h) (fun i h => nomatch h))
  refine ⟨Γ, I, F, sa.same sm, (g1.over sm hp upd_same sa).imp fun x Γ1 I1 F1 H1 sa1 s1 ⟨hp1, g2⟩ u ru => ?_⟩
  cases q : pickB cs x with
  | none => rw [q] at g2; exact g2.elim
  | some z =>
    rw [q] at g2
    obtain ⟨k, e1, e2⟩ := Option.bind_eq_some_iff.mp (show (obD x).bind _ = some z from q)
    obtain ⟨v, a1, a2⟩ := picked hc e2
    exact ⟨p, cv, k, v, rfl, ru.ob e1, hp1, a1, here2 (g2.fin sa1) a2.rep⟩
def getB (cs : List (Option Bool × D)) (x : D) : Option D := (obD x).map fun k => ((cs.find? fun c => decide (c.1 = k)).map (·.2)).getD .non
def mGetB (cs : List (Option Bool × D)) (f : M D) : M D := fun Γ => (f Γ).bind fun x Γ1 => optO (getB cs x) Γ1
theorem got {cv : List (Option Bool × V)} {cs : List (Option Bool × D)} (h : Paired (fun p q => p.1 = q.1 ∧ KonV p.2 q.2) cv cs) (k : Option Bool) : KonV ((atB cv k).getD .non) (((cs.find? fun c => decide (c.1 = k)).map (·.2)).getD .non) := by
  induction h with
  | nil => exact .non
  | @cons c d l m h t ih =>
    unfold atB at ih ⊢
    rw [List.find?_cons, List.find?_cons, h.1]
    by_cases x : d.1 = k
    · simp only [x, decide_true]
      exact h.2
    · simp only [x, decide_false]
      exact ih
theorem relO_getD {o : Option V} {v : Option Value} (r : RelO o v) : RelV (o.getD .non) (v.getD .none) := by
  cases o <;> cases v <;> first | exact r | exact r.elim | rfl
theorem de_getB {X : Cx} {b : Expr} {apos cpos dpos : Pos} {keys : List (Option Expr)} {values : List Expr} {cv : List (Option Bool × V)} {cs : List (Option Bool × D)} {f : M D} (hK : R.K = X.K) (hd : PPs X dpos keys values (cols cv)) (hc : Paired (fun p q => p.1 = q.1 ∧ KonV p.2 q.2) cv cs) (hb : PE X b (tD R Wx f B W))
    (m : M1 X (.Dict keys values dpos) "get" apos b cpos)
    (hn : (cv.map (·.1)).Nodup := by decide) (hall : keys.all (·.isSome) = true := by rfl) (hl : keys.length = values.length := by rfl) (h0 : keys ≠ [] := by exact fun h => nomatch h) (h15 : keys.length ≤ 15 := by decide) :
    PE X (.Call (.Attribute (.Dict keys values dpos) "get" apos) [b] [] cpos) (tD R Wx (mGetB cs f) [] W) := by
  refine ⟨fun pins s σ H Q I ⟨Γ, J1, F, sa, g⟩ => ?_⟩
  refine wpAny_Call_method m.base m.few m.line PySem.F.plainAttrs_dict PySem.F.slot_dict_get PySem.F.type_dict_get (thn ((pe_dispB hd hn hall hl h0 h15).run pins s σ H (fun x H1 => ∃ p, x = .ref p ∧ H p = none ∧ H1 = upd H p (obO X.prog X.w p cv)) I fun p hp => ⟨p, rfl, hp, rfl⟩) fun u s1 ⟨x, H1, I1, rx, p, ex, hp, eH⟩ => ?_)
  subst ex eH
  obtain rfl : u = Value.ref p := rx
  obtain ⟨⟨t3, vs, rel, dd⟩, _⟩ := I1.hok p _ upd_same
  refine ⟨dd.typeIs, fun b e => ?_, ?_⟩
  · cases e
    obtain ⟨ob, _, _, h1, h2, _⟩ := dd
    exact ⟨ob, h1, h2.2.1⟩
  rw [m.trees]
  have g1 := (g.bind (W1 := W) (W2 := []) (fun i h => h) (fun i h => nomatch h)).over (O := obO X.prog X.w p cv) (H1 := upd H p (obO X.prog X.w p cv)) (same_upd hp) hp upd_same sa
  have t : tD R Wx f B W σ (upd H p (obO X.prog X.w p cv)) (fun y H2 => H2 p = some (obO X.prog X.w p cv) ∧ ∃ k z, y = obV k ∧ (((cs.find? fun c => decide (c.1 = k)).map (·.2)).getD .non) = z ∧ ∀ v, KonV v z → Q v H2) := by
    refine ⟨Γ, J1, F, sa.same (same_upd hp), g1.imp fun x Γ1 I2 F2 H2 sa2 s2 ⟨q, g2⟩ u ru => ⟨q, ?_⟩⟩
    cases e : getB cs x with
    | none => rw [e] at g2; exact g2.elim
    | some z =>
      rw [e] at g2
      obtain ⟨k, e1, e2⟩ := Option.map_eq_some_iff.mp (show (obD x).map _ = some z from e)
      exact ⟨k, z, ru.ob e1, e2, fun v kv => here2 (g2.fin sa2) kv.rep⟩
  refine Calls.callWith_builtin rfl (Calls.evalArgs_plain (Calls.spliced_cons (thn (hb.run pins s1 σ _ _ I1 t) fun iv s2 ⟨y, H2, I2, ry, hp2, k, z, ey, ez, q⟩ => Calls.spliced_nil ?_)))
  subst ey
  obtain ⟨⟨t4, vs2, rel2, dd2⟩, _⟩ := I2.hok p _ hp2
  have gk := got hc k
  rw [ez] at gk
  exact call_meetsIn PySem.F.slot_dict_get dd2.typeIs PySem.F.entry_dict_get (PySem.F.args_dict_get_2 _ _) (meets_dict_get (obKind X.prog X.w) p (obV_is ry) t4) ⟨_, dd2.mapOf, ⟨_, H2, I2.tok _, relO_getD (OB.val (k := k) rel2), q _ gk⟩⟩
end
end Dl
/-! DL22: repr. -/
namespace Dl
open PySem PySem.Spec PyProof.Rows L2
def plainP : PyData → Bool
  | .none | .bool _ | .int _ | .str _ => true
  | _ => false
/-- what repr is asked of: data without tables, of whole numbers that are not too long -/
def reprD : List D → Option D
  | [d] => (toP d).bind fun p => if p.showable = true ∧ p.hasDict = false ∧ p.depth ≤ 60 ∧ p.shown.length ≤ 16777216 then some (.str p.shown) else none
  | _ => none
def rRepr (K : PySem.W.Frag) : List V → Hp → VK → Prop := fun xs H Q => ∃ v p, xs = [v] ∧ Dp K H v p ∧ p.showable = true ∧ p.hasDict = false ∧ p.depth ≤ 60 ∧ p.shown.length ≤ 16777216 ∧ Q (.str p.shown) H
theorem cr_repr {X : Cx} (hg : X.A.guards = some []) (hu : X.A.units + 65 < cLine) : CallR X (.builtin "repr") (rRepr X.K) := by
  intro pins s σ H xs us Q I rs ⟨v, p, ex, dp, h1, h2, h3, h4, q⟩
  subst ex
  obtain ⟨u, rfl, ru⟩ := vals1 rs
  obtain ⟨as, r⟩ := Dp.reads I p v u dp ru
  have hz : p.shown.length ≤ sizeLine := by rw [sizeLine_eq]; exact h4
  have far : ∀ a, u = .ref a → wpAny (model X.prog X.w) X.A (call (.builtin "repr") [u]) (EP X pins σ Q) X.xe s := fun a e => by
    subst e
    exact repr_of_reads' r h1 (fun z => absurd (h2.symm.trans z) Bool.false_ne_true) hg (by omega) (fun _ _ h => h) (fun h' w tk hk => ⟨.str p.shown, H, I.kept hk, ⟨w, rfl⟩, q⟩) hz
  cases p with
  | none =>
    cases dp
    obtain rfl : u = .none := ru
    exact P.repr_of_none ⟨.str _, H, I.tok _, ⟨_, rfl⟩, q⟩
  | bool b =>
    cases dp
    obtain rfl : u = .bool b := ru
    exact P.repr_of_bool ⟨.str _, H, I.tok _, ⟨_, rfl⟩, q⟩
  | int i =>
    cases dp
    obtain ⟨t, rfl⟩ := ru
    exact P.repr_of_int (of_decide_eq_true h1) ⟨.str _, H, I.tok _, ⟨_, rfl⟩, q⟩
  | str x =>
    cases dp
    obtain ⟨t, rfl⟩ := ru
    exact P.repr_of_str ⟨.str _, H, I.tok _, ⟨_, rfl⟩, q⟩ hz
  | list l =>
    cases dp
    exact far _ ru
  | tuple l =>
    cases dp
    exact far _ ru
  | dict l => cases h2
theorem repr_ok {R : RX} : CallD R (rRepr R.K) reprD := by
  intro I H xs ds z Q r e k
  unfold reprD at e
  split at e
  · obtain ⟨p, e1, e2⟩ := Option.bind_eq_some_iff.mp e
    split at e2
    · rename_i h
      cases e2
      obtain ⟨v, rfl, q⟩ := reps1 r
      exact ⟨v, p, rfl, q.dp e1, h.1, h.2.1, h.2.2.1, h.2.2.2, here2 k (.str _)⟩
    · cases e2
  · cases e
end Dl
/-! DL23: sorted, dict of pairs. -/
namespace Dl
open PySem PySem.Spec PyProof.Rows L2
def insI (k : Int) : List Int → List Int
  | [] => [k]
  | x :: l => if k ≤ x then k :: x :: l else x :: insI k l
def srtI : List Int → List Int
  | [] => []
  | k :: l => insI k (srtI l)
theorem insI_perm (k : Int) : ∀ l, (insI k l).Perm (k :: l)
  | [] => .refl _
  | x :: l => by
    unfold insI
    split
    · exact .refl _
    · exact ((insI_perm k l).cons x).trans (.swap k x l)
theorem srtI_perm : ∀ l, (srtI l).Perm l
  | [] => .refl _
  | k :: l => (insI_perm k (srtI l)).trans ((srtI_perm l).cons k)
theorem insI_pw (k : Int) : ∀ {l : List Int}, l.Pairwise (· ≤ ·) → (insI k l).Pairwise (· ≤ ·)
  | [], _ => List.pairwise_singleton _ _
  | x :: l, h => by
    have h2 := List.pairwise_cons.mp h
    unfold insI
    split
    · rename_i c
      refine List.pairwise_cons.mpr ⟨fun y hy => ?_, h⟩
      rcases List.mem_cons.mp hy with rfl | hy
      · exact c
      · exact Int.le_trans c (h2.1 y hy)
    · rename_i c
      refine List.pairwise_cons.mpr ⟨fun y hy => ?_, insI_pw k h2.2⟩
      rcases List.mem_cons.mp ((insI_perm k l).mem_iff.mp hy) with rfl | hy
      · omega
      · exact h2.1 y hy
theorem srtI_pw : ∀ l, (srtI l).Pairwise (· ≤ ·)
  | [] => .nil
  | k :: l => insI_pw k (srtI_pw l)
theorem srt_one : ∀ {l m : List Int}, l.Perm m → l.Pairwise (· ≤ ·) → m.Pairwise (· ≤ ·) → l = m
  | [], m, p, _, _ => (List.Perm.nil_eq p)
  | x :: l, [], p, _, _ => (List.Perm.eq_nil p)
  | x :: l, y :: m, p, h1, h2 => by
    have a := List.pairwise_cons.mp h1
    have b := List.pairwise_cons.mp h2
    have e : x = y := by
      have c1 : x ≤ y := by
        rcases List.mem_cons.mp (p.mem_iff.mpr (List.mem_cons_self (a := y) (l := m))) with z | z
        · omega
        · exact a.1 y z
      have c2 : y ≤ x := by
        rcases List.mem_cons.mp (p.mem_iff.mp (List.mem_cons_self (a := x) (l := l))) with z | z
        · omega
        · exact b.1 x z
      omega
    subst e
    rw [srt_one (List.perm_cons _ |>.mp p) a.2 b.2]
def sortedD : List D → Option D
  | [.lst l] => (intsD l).map fun ns => .lst ((srtI ns).map .int)
  | _ => none
theorem reps_ints {R : RX} {I : Addr → Prop} {H : Hp} : ∀ ns : List Int, Reps R I H (ns.map V.int) (ns.map D.int)
  | [] => .nil
  | n :: ns => .cons (.int n) (reps_ints ns)
theorem sorted_ok {R : RX} : CallD R (rSortedI R.K) sortedD := by
  intro I H xs ds z Q r e k
  unfold sortedD at e
  split at e
  · obtain ⟨ns, e1, rfl⟩ := Option.map_eq_some_iff.mp e
    obtain ⟨v, rfl, q⟩ := reps1 r
    cases q with
    | lst h1 h2 t =>
      rw [t.allInt e1] at h2
      refine ⟨_, ns, rfl, .of h2, fun ns' p pm pw hp => ?_⟩
      rw [srt_one (pm.trans (srtI_perm ns).symm) pw (srtI_pw ns)]
      refine k (.ref p) (fun a => I a ∨ a = p) _ (same_upd hp) (fun a h => .inl h) (fun a h => h.imp (fun z => z) fun (e : a = p) => by rw [e]; exact hp) (.lst (.inr rfl) upd_same (reps_ints _))
  · cases e
/-! dict of pairs -/
def kvD : List D → Option (List (Key × D))
  | [] => some []
  | .tup [a, b] :: l => (keyD a).bind fun k => (kvD l).map ((k, b) :: ·)
  | _ :: _ => none
def dictD : List D → Option D
  | [.lst l] => (kvD l).map fun kds => .dct (mergeD [] kds)
  | _ => none
theorem pairs_rep {R : RX} {I : Addr → Prop} {H : Hp} : ∀ {vs : List V} {ds : List D} {kds : List (Key × D)}, Reps R I H vs ds → kvD ds = some kds → ∃ (ps : List Addr) (kvs : List (Key × V)), vs = ps.map V.ref ∧ Paired (fun p kv => SqT R.K H p [kV kv.1, kv.2]) ps kvs ∧ RepK R I H kvs kds
  | _, _, kds, .nil, e => by cases e; exact ⟨[], [], rfl, .nil, .nil⟩
  | _, d :: ds, kds, .cons r t, e => by
    unfold kvD at e
    split at e
    · rename_i h; cases h
    · rename_i a b l h
      cases h
      obtain ⟨k, e1, e2⟩ := Option.bind_eq_some_iff.mp e
      obtain ⟨kds', e3, rfl⟩ := Option.map_eq_some_iff.mp e2
      obtain ⟨ps, kvs, rfl, q2, q3⟩ := pairs_rep t e3
      cases r with
      | @tup p xs _ h2 tt =>
        obtain ⟨v, u, rfl, ra, rb⟩ := reps2 tt
        obtain rfl := ra.key e1
        exact ⟨_ :: ps, (k, u) :: kvs, rfl, .cons h2 q2, .cons rb q3⟩
    · cases e
theorem RepK.merge {R : RX} {I : Addr → Prop} {H : Hp} : ∀ (more : List (Key × V)) {mored : List (Key × D)} {kvs : List (Key × V)} {kds : List (Key × D)}, RepK R I H more mored → RepK R I H kvs kds → RepK R I H (mergeK kvs more) (mergeD kds mored)
  | [], _, _, _, r, q => by cases r; exact q
  | _ :: more, _, _, _, r, q => by
    cases r with
    | @cons k v vs d ds r t => exact (RepK.merge (mored := ds) more t (q.put (k := k) r) :)
theorem dict_ok {R : RX} : CallD R (fun xs H Q => ∃ (a : Addr) (ps : List Addr) (kvs : List (Key × V)), xs = [.ref a] ∧ SqL R.K H a (ps.map V.ref) ∧ Paired (fun p kv => SqT R.K H p [kV kv.1, kv.2]) ps kvs ∧ ∀ p, H p = none → Q (.ref p) (upd H p (.dK (mergeK [] kvs)))) dictD := by
  intro I H xs ds z Q r e k
  unfold dictD at e
  split at e
  · obtain ⟨kds, e1, rfl⟩ := Option.map_eq_some_iff.mp e
    obtain ⟨v, rfl, q⟩ := reps1 r
    cases q with
    | lst h1 h2 t =>
      obtain ⟨ps, kvs, rfl, q2, q3⟩ := pairs_rep t e1
      refine ⟨_, ps, kvs, rfl, .of h2, q2, fun p hp => ?_⟩
      refine k (.ref p) (fun a => I a ∨ a = p) _ (same_upd hp) (fun a h => .inl h) (fun a h => h.imp (fun z => z) fun (e : a = p) => by rw [e]; exact hp) (.dct (.inr rfl) (.inl upd_same) ((RepK.merge _ q3 .nil).ext (.same (same_upd hp)) fun _ h => .inl h))
  · cases e
end Dl
/-! DL24: displays of tables. -/
namespace Dl
open PySem PySem.Spec PyProof.Rows L2
section
variable {X : Cx} {R : RX} {Wx : WX} {W Wa Wb B Ba Bb : List Nat} {pos : Pos}
def pairsV (ks : List Key) (vs : List V) : List (V × V) := (ks.zip vs).map fun kv => (kV kv.1, kv.2)
structure DPs (X : Cx) (R : RX) (Wx : WX) (pos : Pos) (keys : List (Option Expr)) (values : List Expr) (ks : List Key) (f : M (List D)) (B W : List Nat) : Prop where
  ok : ∃ trs, PPs X pos keys values trs ∧ ∀ (σ : L2.St) (H : Hp) (Q : List (V × V) → Hp → Prop), (∃ Γ I F, SA R I F Γ σ H ∧ Go R Wx W I F σ H (f Γ) (fun ds _ I' F' H' => ∀ vs, Reps R (J I' F' B) H' vs ds → Q (pairsV ks vs) H')) → tPairs trs σ H Q
theorem dps_nil : DPs X R Wx pos [] [] [] mNil [] [] := ⟨[], pps_nil, fun σ H Q ⟨Γ, I, F, sa, g⟩ => g.here sa [] .nil⟩
theorem dps_cons {k : Key} {kx vx : Expr} {keys : List (Option Expr)} {values : List Expr} {ks : List Key} {fv : M D} {fr : M (List D)} (hk : PE X kx (tC (kV k))) (hv : PE X vx (tD R Wx fv Ba Wa)) (hr : DPs X R Wx pos keys values ks fr Bb Wb) (hd : ∀ i ∈ Ba, i ∉ Wb := by decide) :
    DPs X R Wx pos (some kx :: keys) (vx :: values) (k :: ks) (mCons fv fr) (Ba ++ Bb) (Wa ++ Wb) := by
  obtain ⟨trs, h1, h2⟩ := hr.ok
  refine ⟨_, pps_cons hk hv h1, fun σ H Q ⟨Γ, I, F, sa, g⟩ => ?_⟩
  show tD R Wx fv Ba Wa σ H fun y H2 => tPairs trs σ H2 fun ps H3 => Q ((kV k, y) :: ps) H3
  refine ⟨Γ, I, F, sa, (g.bind (W1 := Wa) (W2 := Wb) (fun i h => List.mem_append_left _ h) (fun i h => List.mem_append_right _ h)).imp fun x Γ1 I1 F1 H1 sa1 s1 g1 v rv => h2 _ _ _ ?_⟩
  refine ⟨Γ1, I1, F1, sa1, (g1.bind (W1 := Wb) (W2 := []) (fun i h => h) (fun i h => nomatch h)).imp fun y Γ2 I2 F2 H2 sa2 s2 g2 u ru => ?_⟩
  exact g2.here sa2 (v :: u) (.cons ((rv.stp sa1 s2 hd).reg (J.mono fun i h => List.mem_append_left _ h)) (ru.reg (J.mono fun i h => List.mem_append_right _ h)))
def mDisp (ks : List Key) (f : M (List D)) : M D := fun Γ => (f Γ).bind fun ds Γ1 => if ds.length = ks.length then .ok (.own (.dct (mergeD [] (ks.zip ds)))) Γ1 else .bad
theorem zip_rep {I : Addr → Prop} {H : Hp} : ∀ (ks : List Key) {vs : List V} {ds : List D}, Reps R I H vs ds → RepK R I H (ks.zip vs) (ks.zip ds)
  | [], _, _, _ => .nil
  | k :: ks, _, _, .nil => .nil
  | k :: ks, _, _, .cons r t => .cons r (zip_rep ks t)
theorem SA.poke {I : Addr → Prop} {F : Fps} {Γ : Env} {σ : L2.St} {H : Hp} {p : Addr} {o0 o : HO} (sa : SA R I F Γ σ H) (hI : ¬ I p) (hF : ∀ i, ¬ F i p) (hp : H p = some o0) (h1 : ∀ xs, o0 ≠ .tup xs) (h2 : ∀ ob u, o0 ≠ .frz ob u) : SA R I F Γ σ (upd H p o) := by
  have e : Ext I H (upd H p o) := ⟨fun a o' x z => by rw [upd_ne fun (y : a = p) => hI (by rw [← y]; exact x)]; exact z, fun a xs z => by
    rw [upd_ne fun y => ?_]; exact z
    rw [y, hp] at z; exact h1 xs (Option.some.inj z), fun a ob u z => by
    rw [upd_ne fun y => ?_]; exact z
    rw [y, hp] at z; exact h2 ob u (Option.some.inj z)⟩
  refine ⟨sa.len, fun i => ?_, sa.dis, sa.apt, fun a x => ?_, fun i a x => ?_⟩
  · have h := sa.ok i
    unfold SlotOk at h ⊢
    split at h
    · obtain ⟨v, e1, h⟩ := h
      exact ⟨v, e1, h.ext e (fun _ h => h) fun a o' z1 z2 => by rw [upd_ne fun (y : a = p) => hF i (by rw [← y]; exact z1)]; exact z2⟩
    · obtain ⟨⟨v, e1, h⟩, n⟩ := h
      exact ⟨⟨v, e1, h.ext e fun _ h => h⟩, n⟩
    · exact h
  · rw [upd_ne fun (y : a = p) => hI (by rw [← y]; exact x)]
    exact sa.itr a x
  · obtain ⟨o', q, r⟩ := sa.trk i a x
    exact ⟨o', by rw [upd_ne fun (y : a = p) => hF i (by rw [← y]; exact x)]; exact q, r⟩
theorem dx_disp {keys : List (Option Expr)} {values : List Expr} {ks : List Key} {f : M (List D)} (h : DPs X R Wx pos keys values ks f B W) (hall : keys.all (·.isSome) = true := by rfl) (hl : keys.length = values.length := by rfl) (h0 : keys ≠ [] := by exact fun h => nomatch h) (h15 : keys.length ≤ 15 := by decide) (hks : ks.length ≤ 15 := by decide) :
    PE X (.Dict keys values pos) (tDX R Wx (mDisp ks f) B W) := by
  obtain ⟨trs, h1, h2⟩ := h.ok
  refine PE.imp (pe_disp h1 hall hl h0 h15) fun σ H Q ⟨Γ, I, F, sa, g⟩ p hp => h2 _ _ _ ⟨Γ, I, F, sa.same (same_upd hp), ?_⟩
  have g0 : Stp W I F H I F (upd H p (.dK [])) := .grow (same_upd hp) (fun _ h => h) fun _ h => .inl h
  have nF : ∀ i, ¬ F i p := fun i z => by
    obtain ⟨o, e, _⟩ := sa.trk i p z
    rw [hp] at e
    cases e
  have nI : ¬ I p := fun z => sa.itr p z hp
  unfold mDisp at g
  cases e : f Γ with
  | bad => rw [e] at g; exact g
  | exc x Γ1 =>
    rw [e] at g
    exact fun I' F' H' cls dx sa s => g I' F' H' cls dx sa (g0.trans s (fun _ h => h) fun _ h => h)
  | ok ds Γ1 =>
    rw [e] at g
    intro I1 F1 H1 sa1 s1 vs rv
    have g : Go R Wx W I F σ H (if ds.length = ks.length then .ok (.own (.dct (mergeD [] (ks.zip ds)))) Γ1 else .bad) (kX R B W F H Q) := g
    by_cases hz : ds.length = ks.length
    · rw [if_pos hz] at g
      have hp1 : H1 p = some (.dK []) := s1.keep p _ upd_same fun i _ => nF i
      have up : upd H p (.dK []) p ≠ none := by rw [upd_same]; exact Option.some_ne_none _
      have nI1 : ¬ I1 p := fun z => by
        rcases s1.ifr p z with y | ⟨j, _, y⟩ | y
        · exact nI y
        · exact nF j y
        · exact up y
      have nF1 : ∀ i, ¬ F1 i p := fun i z => by
        rcases s1.fre i p z with ⟨j, _, y⟩ | y | y
        · exact nF j y
        · exact nF i y
        · exact up y
      have hlen : ((ks.zip vs).map fun kv => kv).length ≤ 15 := by rw [List.length_map, List.length_zip]; omega
      refine ⟨hp1, ks.zip vs, rfl, by simpa using hlen, ?_⟩
      have t := g0.trans (W := W) s1 (fun _ h => h) fun _ h => h
      have sa2 : SA R I1 F1 Γ1 σ (upd H1 p (.dK (mergeK [] (ks.zip vs)))) := sa1.poke nI1 nF1 hp1 (fun _ e => nomatch e) fun _ _ e => nomatch e
      have st : Stp W I F H I1 F1 (upd H1 p (.dK (mergeK [] (ks.zip vs)))) := by
        refine ⟨fun a o z n => ?_, t.same, t.fre, t.ifr, t.imo, fun a z => ?_⟩
        · rw [upd_ne fun y => ?_]
          · exact t.keep a o z n
          · rw [y, hp] at z
            cases z
        · by_cases y : a = p
          · rw [y]; exact hp
          · rw [upd_ne y] at z
            exact t.dom a z
      refine g I1 F1 _ sa2 st (.ref p) ⟨fun a => a = p, ⟨p, _, rfl, upd_same, ?_, fun _ => .rfl⟩, fun a z => ?_⟩
      · have ex : Ext (J I1 F1 B) H1 (upd H1 p (.dK (mergeK [] (ks.zip vs)))) := by
          refine ⟨fun a o x z => ?_, fun a xs z => ?_, fun a ob u z => ?_⟩
          · rw [upd_ne fun y => ?_]
            · exact z
            · rw [y] at x
              rcases x with x | ⟨j, _, x⟩
              · exact nI1 x
              · exact nF1 j x
          · rw [upd_ne fun y => ?_]
            · exact z
            · rw [y, hp1] at z
              cases z
          · rw [upd_ne fun y => ?_]
            · exact z
            · rw [y, hp1] at z
              cases z
        exact (RepK.merge _ (zip_rep ks rv) .nil).ext ex fun _ h => h
      · have z : a = p := z
        subst z
        exact ⟨⟨nI1, nF1, _, upd_same, (fun _ e => nomatch e), fun _ _ e => nomatch e⟩, .inr hp⟩
    · rw [if_neg hz] at g
      exact g.elim
end
end Dl
/-! DK21: sorted(set(xs)) of ints, of texts. -/
namespace Dl
open PySem PySem.Spec PyProof.Rows L2
/-- what lies in a set: ints, texts -/
structure Kv (P : Program) (w : World) (κ : Type) [DecidableEq κ] where
  knd : PySem.KeyKind P w κ
  val : κ → Tok → Value
  ko : Value → κ
  koV : ∀ k t, ko (val k t) = k
  isV : ∀ k t, knd.is k (val k t) = true
  scV : ∀ k t, (val k t).scannable = true
def kvS (P : Program) (w : World) : Kv P w Str where
  knd := PySem.strKind P w
  val := fun k t => .str k t
  ko := fun v => match v with
    | .str x _ => x
    | _ => Str.empty
  koV := fun _ _ => rfl
  isV := fun _ _ => strKind_is _ _ _ _
  scV := fun _ _ => rfl
def kvI (P : Program) (w : World) : Kv P w Int where
  knd := PySem.intKind P w
  val := fun k t => .int k t
  ko := fun v => match v with
    | .int x _ => x
    | _ => 0
  koV := fun _ _ => rfl
  isV := fun _ _ => intKind_is P w _ _
  scV := fun _ _ => rfl
section
variable {P : Program} {w : World} {κ : Type} [DecidableEq κ] (K : Kv P w κ)
def ddK (L : List κ) (k : κ) : List κ := if k ∈ L then L else L ++ [k]
def ddL (l : List κ) : List κ := l.foldl ddK []
theorem ddK_mem {L : List κ} {k j : κ} : j ∈ ddK L k ↔ j ∈ L ∨ j = k := by
  unfold ddK
  split
  · exact ⟨.inl, fun h => h.elim id fun e => by rw [e]; assumption⟩
  · rw [List.mem_append, List.mem_singleton]
theorem ddK_nd {L : List κ} {k : κ} (h : L.Nodup) : (ddK L k).Nodup := by
  unfold ddK
  split
  · exact h
  · rename_i n
    rw [List.nodup_append]
    refine ⟨h, by simp, fun a ha b hb => ?_⟩
    rw [List.mem_singleton.mp hb]
    exact fun e => n (by rw [← e]; exact ha)
theorem ddK_len (L : List κ) (k : κ) : (ddK L k).length ≤ L.length + 1 := by
  unfold ddK; split <;> simp
theorem ddL_le (l : List κ) : (ddL l).length ≤ l.length := by
  suffices h : ∀ (l acc : List κ), (l.foldl ddK acc).length ≤ acc.length + l.length by simpa [ddL] using h l []
  intro l
  induction l with
  | nil => intro acc; simp
  | cons v l ih =>
    intro acc
    have h1 := ih (ddK acc v)
    have h2 := ddK_len acc v
    rw [List.foldl_cons, List.length_cons]
    omega
theorem ddL_take {l : List κ} {i : Nat} (h : i < l.length) : ddL (l.take (i + 1)) = ddK (ddL (l.take i)) l[i] := by
  unfold ddL
  rw [List.take_succ, List.foldl_append, List.getElem?_eq_getElem h]; rfl
theorem ddL_mem {l : List κ} {k : κ} : k ∈ ddL l ↔ k ∈ l := by
  suffices h : ∀ (l acc : List κ), k ∈ l.foldl ddK acc ↔ k ∈ acc ∨ k ∈ l by simpa [ddL] using h l []
  intro l
  induction l with
  | nil => intro acc; simp
  | cons v l ih =>
    intro acc
    rw [List.foldl_cons, ih, ddK_mem, List.mem_cons, or_assoc]
theorem ddL_nd (l : List κ) : (ddL l).Nodup := by
  suffices h : ∀ (l acc : List κ), acc.Nodup → (l.foldl ddK acc).Nodup from h l [] List.nodup_nil
  intro l
  induction l with
  | nil => exact fun acc h => h
  | cons v l ih => exact fun acc h => ih _ (ddK_nd h)
def okE (e : Int × Value) : Prop := ∃ k t, e.2 = K.val k t ∧ e.1 = K.knd.hash k
def kE1 (e : Int × Value) : κ := K.ko e.2
/-- the set at a holds just L -/
structure SetL (h : Heap) (a : Addr) (L : List κ) : Prop where
  ex : ∃ o es ep t, h.get? a = some o ∧ o.ExactSet ∧ o.data = .set es ep t ∧ (∀ e ∈ es.toList, okE K e) ∧ (es.toList.map (kE1 K)).Perm L ∧ es.size < scanBound ∧ t.fits es.size = true ∧ Ris t.place.toList ∧ (w.params.followText "set-order" = true ∨ t.led = true)
  nd : L.Nodup
variable {K}
theorem okE.is {e : Int × Value} (g : okE K e) (k : κ) : K.knd.is k e.2 = true ↔ kE1 K e = k := by
  obtain ⟨j, t, e1, _⟩ := g
  unfold kE1
  rw [e1, K.koV]
  exact ⟨fun h => K.knd.inj _ _ _ (K.isV j t) h, fun h => by rw [← h]; exact K.isV j t⟩
theorem okE.all {l : List (Int × Value)} (g : ∀ e ∈ l, okE K e) : ElemsOf K.knd l := fun e he => by
  obtain ⟨k, t, h1, h2⟩ := g e he
  exact ⟨⟨k, by rw [h1]; exact K.isV k t, h2⟩, by rw [h1]; exact K.scV k t⟩
theorem SetL.keep {h h' : Heap} {a : Addr} {L : List κ} (R : SetL K h a L) (k : ∀ o, h.get? a = some o → h'.get? a = some o) : SetL K h' a L := by
  obtain ⟨⟨o, es, ep, t, ho, r⟩, nd⟩ := R
  exact ⟨⟨o, es, ep, t, k o ho, r⟩, nd⟩
section
variable {A : Around} {E : Value → Shared → Prop} {s : Shared} {a : Addr} {L : List κ}
theorem put_tail {g : Bool → Sem Unit} (hg : ∀ (b : Bool) (u : Shared) (Z : Unit → Shared → Prop), Z () u → wpAny (model P w) A (g b) Z E u)
    {o : Obj} {es : Array (Int × Value)} {ep : Nat} {t : SetTable} (ho : s.heap.get? a = some o) (hx : o.ExactSet) (hd : o.data = .set es ep t)
    {fs : Array (Int × Value)} {tb : SetTable} {M : List κ} (g1 : ∀ e ∈ fs.toList, okE K e) (pm : (fs.toList.map (kE1 K)).Perm M) (nd : M.Nodup) (hb : fs.size < scanBound) (hf : tb.fits fs.size = true)
    (hr : Ris tb.place.toList) (hl : w.params.followText "set-order" = true ∨ tb.led = true) {dm : Bool} {R : Option Bool → Shared → Prop}
    (hR : ∀ h', Heap.SameBut a s.heap h' → SetL K h' a M → R (some true) { s with heap := h' }) :
    wpAny (model P w) A (do
        storeSet a fs tb
        if (!dm && tb.tooFull) = true then do
            g (relayAll tb fs (SetTable.grown fs.size)).2.2
            storeSet a (relayAll tb fs (SetTable.grown fs.size)).1 (relayAll tb fs (SetTable.grown fs.size)).2.1
            pure (some true)
          else pure (some true)) R E s := by
  have b1 := Heap.SameBut.update s.heap a (Obj.putSet fs tb)
  have o1 := store_at (es' := fs) (t' := tb) ho hd
  refine wpAny_bind (wpAny_storeSet_of ho hd ?_ (fits_of_scanBound hb))
  by_cases hc : (!dm && tb.tooFull) = true
  · rw [if_pos hc]
    have q1 := relayAll_perm tb fs (SetTable.grown fs.size)
    have q2 := relayAll_fits tb fs (SetTable.grown fs.size)
    have q3 := relayAll_ris tb fs (SetTable.grown fs.size)
    have q4 := relayAll_led tb fs (SetTable.grown fs.size)
    revert q1 q2 q3 q4
    rcases relayAll tb fs (SetTable.grown fs.size) with ⟨gs, tc, gv⟩
    intro q1 q2 q3 q4
    dsimp only at q1 q2 q3 q4 ⊢
    have sz : gs.size = fs.size := by rw [← Array.length_toList, q1.length_eq, Array.length_toList]
    refine wpAny_bind (hg _ _ _ (wpAny_bind (wpAny_storeSet_of o1 rfl ?_ (fits_of_scanBound (by rw [sz]; exact hb)))))
    have o2 := store_at (es' := gs) (t' := tc) o1 rfl
    refine wpAny_pure (hR _ (b1.trans (Heap.SameBut.update _ a _)) ⟨⟨_, gs, _, tc, o2, hx, rfl, fun e he => g1 e (q1.mem_iff.mp he), (q1.map _).trans pm, by rw [sz]; exact hb, q2, q3, ?_⟩, nd⟩)
    rw [q4]
    exact hl
  · rw [if_neg hc]
    exact wpAny_pure (hR _ b1 ⟨⟨_, fs, _, tb, o1, hx, rfl, g1, pm, hb, hf, hr, hl⟩, nd⟩)
theorem put_one {k : κ} {tk : Tok} {Q : Bool → Shared → Prop} (R : SetL K s.heap a L) (room : L.length + 1 < scanBound)
    (hQ : ∀ b h', Heap.SameBut a s.heap h' → SetL K h' a (ddK L k) → Q b { s with heap := h' }) :
    wpAny (model P w) A (setAddHashed a (K.val k tk) (K.knd.hash k)) Q E s := by
  obtain ⟨⟨o, es, ep, t, ho, hx, hd, g, pm, hb, hf, hr, hl⟩, nd⟩ := R
  have sc := K.scV k tk
  have is1 := K.isV k tk
  have el : ElemsOf K.knd es.toList := okE.all g
  have sz : es.size = L.length := by rw [← pm.length_eq, List.length_map, Array.length_toList]
  unfold setAddHashed setAddHashedIn
  refine wpAny_holding (wpAny_bind (wpAny_setState_of ho hd hf ?_))
  dsimp only
  rw [byScan_of sc hb el]
  simp only [↓reduceIte]
  unfold setAddByScan
  refine wpAny_bind (wpAny_bind (wpAny_rule (wpAny_bind (wpAny_setScan_of is1 ho hd hf el ?_))))
  cases fi : List.findIdx? (fun e => K.knd.is k e.2) es.toList with
  | some j =>
    dsimp only
    obtain ⟨hj, pj, _⟩ := List.findIdx?_eq_some_iff_getElem.mp fi
    have hk : k ∈ L := by
      rw [← pm.mem_iff, List.mem_map]
      exact ⟨_, List.getElem_mem hj, (okE.is (g _ (List.getElem_mem hj)) k).mp pj⟩
    have q := hQ false s.heap (Heap.SameBut.refl a s.heap) (by
      unfold ddK
      rw [if_pos hk]
      exact ⟨⟨o, es, ep, t, ho, hx, hd, g, pm, hb, hf, hr, hl⟩, nd⟩)
    exact wpAny_pure (wpAny_pure q)
  | none =>
    dsimp only
    have hk : k ∉ L := fun z => by
      rw [← pm.mem_iff, List.mem_map] at z
      obtain ⟨e, he, q⟩ := z
      have c := List.findIdx?_eq_none_iff.mp fi e he
      rw [(okE.is (g e he) k).mpr q] at c
      cases c
    have dk : ddK L k = L ++ [k] := if_neg hk
    have gw : ∀ (b : Bool) {u : Shared} {Z : Unit → Shared → Prop}, Z () u → wpAny (model P w) A (match b with | true => rule "set.scan.the-table-gave-way" | false => pure ()) Z E u := fun b u Z q => by
      cases b
      · exact wpAny_pure q
      · exact wpAny_rule q
    have q1 := layNew_perm t es (K.knd.hash k) (K.val k tk)
    have q2 := layNew_fits t es (K.knd.hash k) (K.val k tk)
    have q3 := layNew_ris t es (K.knd.hash k) (K.val k tk) hr
    have q4 := layNew_led t es (K.knd.hash k) (K.val k tk)
    revert q1 q2 q3 q4
    rcases layNew t es (K.knd.hash k) (K.val k tk) with ⟨fs, tb, dm, gv⟩
    intro q1 q2 q3 q4
    dsimp only at q1 q2 q3 q4 ⊢
    rw [Array.toList_push] at q1
    have g1 : ∀ e ∈ fs.toList, okE K e := fun e he => by
      rcases List.mem_append.mp (q1.mem_iff.mp he) with z | z
      · exact g e z
      · rw [List.mem_singleton.mp z]; exact ⟨k, tk, rfl, rfl⟩
    have pk : (fs.toList.map (kE1 K)).Perm (ddK L k) := by
      rw [dk]
      refine (q1.map (kE1 K)).trans ?_
      rw [List.map_append, List.map_singleton]
      have e1 : kE1 K (K.knd.hash k, K.val k tk) = k := K.koV k tk
      rw [e1]
      exact pm.append_right [k]
    have sz2 : fs.size = L.length + 1 := by rw [← Array.length_toList, ← List.length_map (kE1 K), pk.length_eq, dk, List.length_append, List.length_singleton]
    have hb2 : fs.size < scanBound := by rw [sz2]; exact room
    have hl2 : w.params.followText "set-order" = true ∨ tb.led = true := by rw [q4]; exact hl
    have nd2 : (ddK L k).Nodup := ddK_nd nd
    refine wpAny_bind (gw _ ?_)
    split
    · refine wpAny_bind ?_
      rw [hashByValue_scannable 8 sc]
      refine wpAny_pure ?_
      refine put_tail ?_ ho hx hd g1 pk nd2 hb2 ?_ ?_ ?_ ?_
      · intro b u Z q
        cases b
        · exact wpAny_pure q
        · exact wpAny_rule q
      · first | (split <;> first | exact q2 | exact SetTable.fits_plain_off q2) | exact q2
      · first | (split <;> exact q3) | exact q3
      · first | (split <;> exact hl2) | exact hl2
      · intro h' sb r; dsimp only; exact wpAny_pure (hQ true h' sb r)
    · refine wpAny_bind (wpAny_pure ?_)
      simp only [↓reduceIte]
      refine put_tail ?_ ho hx hd g1 pk nd2 hb2 q2 q3 hl2 ?_
      · intro b u Z q
        cases b
        · exact wpAny_pure q
        · exact wpAny_rule q
      · intro h' sb r; dsimp only; exact wpAny_pure (hQ true h' sb r)
end
end
section
variable {prog : Program} {w : World} {κ : Type} [DecidableEq κ] {K : Kv prog w κ} {A : Around} {R : Result → Shared → Prop} {J : Addr} {fp wr : List Addr} {G : Array GenState → Array GenState → Prop} {n : Nat} {P : Nat → Value → Prop} {T : Nat → Shared → Prop}
theorem loopU (W : WalksS prog w A.in1 J fp wr G n P T) (c : Addr) (hc : c ∉ fp) (ws : List κ) (hn : ws.length = n) (hb : n + 1 < scanBound)
    (at' : ∀ i v, P i v → ∃ k t, ws[i]? = some k ∧ v = K.val k t) : ∀ (k i : Nat) (s : Shared), i + k = n → T i s → SetL K s.heap c (ddL (ws.take i)) →
      (∀ u, Moved (c :: wr) G s u → SetL K u.heap c (ddL ws) → R (.ok (.ret .none)) u) →
      codeAny (model prog w) A (.builtin "set.update.loop" ⟨[.ref c, .ref J], []⟩) R s := by
  have hw : c ∉ wr := fun h => hc (W.sub _ h)
  intro k
  induction k with
  | zero =>
    intro i s hk ht hS hR
    obtain rfl : i = n := hk
    refine codeAny_builtin F.entry_set_update_loop (by
      rw [Around.under_plainId F.plain_set_update_loop _]
      show wpAny _ A.in1 (pyNext (.ref J) >>= _) _ _ s
      refine wpAny_bind (W.done s _ _ ht fun u hm => ?_)
      refine (show wpAny _ A.in1 (ret Value.none) _ _ u from wpAny_pure (hR u (hm.mono fun b h => List.mem_cons_of_mem _ h) ?_))
      rw [← hn, List.take_length] at hS
      exact hS.keep fun o ho => hm.heap c _ hw ho)
  | succ k ih =>
    intro i s hk ht hS hR
    have hi : i < n := by omega
    have hl : i < ws.length := by omega
    refine codeAny_builtin F.entry_set_update_loop ?_
    rw [Around.under_plainId F.plain_set_update_loop _]
    show wpAny _ A.in1 (pyNext (.ref J) >>= _) _ _ s
    refine wpAny_bind (W.item i s _ _ hi ht fun v u hP ht' hm => ?_)
    obtain ⟨x, t, ex, rfl⟩ := at' i v hP
    rw [List.getElem?_eq_getElem hl] at ex
    cases ex
    have hS1 : SetL K u.heap c (ddL (ws.take i)) := hS.keep fun o ho => hm.heap c _ hw ho
    show wpAny _ A.in1 (holding [K.val ws[i] t] (setAdd c (K.val ws[i] t)) >>= _) _ _ u
    refine wpAny_bind (wpAny_holding ?_)
    unfold setAdd
    refine wpAny_holding (wpAny_bind (K.knd.pyHash (k := ws[i]) (K.isV _ _) ?_))
    have hroom : (ddL (ws.take i)).length + 1 < scanBound := by
      have h1 := ddL_le (ws.take i)
      have h2 := List.length_take_le i ws
      omega
    refine put_one (s := { u with toks := u.toks + 1 }) hS1 hroom fun b h2 hsb hS2 => ?_
    rw [← ddL_take hl] at hS2
    refine wpAny_pure ⟨plainId_quiet F.plain_set_update_loop _, ih (i + 1) _ (by omega) (W.frame _ u _ _ ht' (Nat.le_succ _) fun b hb o e => ?_) hS2 fun u2 hm2 hS4 => ?_⟩
    · rw [hsb.2 b fun z => hc (z ▸ hb)]; exact e
    · refine hR u2 (Moved.trans W.gtrans ((hm.mono fun b h => List.mem_cons_of_mem _ h).then_heap (Nat.le_succ _) fun b o hb e => ?_) hm2) hS4
      rw [hsb.2 b fun z => hb (z ▸ List.mem_cons_self)]; exact e
end
end Dl
/-! DK22: set(xs), sorted(set(xs)). -/
namespace Dl
open PySem PySem.Spec PyProof.Rows L2
abbrev ledB (w : World) : Bool := !w.params.followText "set-order"
section
variable {prog : Program} {w : World} {κ : Type} [DecidableEq κ] {K : Kv prog w κ} {A : Around} {E : Value → Shared → Prop} {s : Shared}
theorem setL_new {h : Heap} {a : Addr} (ho : h.get? a = some { cls := .type "set", dict := none, data := .set #[] 0 (.fresh 0 0 (ledB w)) }) : SetL K h a [] :=
  ⟨⟨_, #[], 0, _, ho, ⟨rfl, rfl, rfl⟩, rfl, (fun e he => by simp at he), .refl _, (by decide), (by rfl), List.Pairwise.nil, by
    show _ ∨ (!w.params.followText "set-order") = true
    cases w.params.followText "set-order"
    · exact .inr rfl
    · exact .inl rfl⟩, List.nodup_nil⟩
set_option maxHeartbeats 3200000 in
theorem setOfK {l : Addr} {its : Array Value} {ws : List κ} {Q : Value → Shared → Prop}
    (hh : A.handled = none) (hl : s.heap.IsList l its) (hi : ∀ (i : Nat) (v : Value), its[i]? = some v → ∃ k t, ws[i]? = some k ∧ v = K.val k t) (hsz : ws.length = its.size) (hb : ws.length + 1 < scanBound)
    (h : ∀ (h' : Heap) (tk : Nat), SetL K h' s.heap.objs.size (ddL ws) →
      (∀ b o, b < s.heap.objs.size → s.heap.get? b = some o → h'.get? b = some o) → Q (.ref s.heap.objs.size) { s with heap := h', toks := tk }) :
    wpAny (model prog w) A (call (.type "set") [.ref l]) Q E s := by
  obtain ⟨_, _, m0⟩ := PySem.F.called_set.mro
  have m1 := PySem.F.called_set.made
  have m2 := PySem.F.called_set.sub
  have m3 := PySem.F.called_set.notType
  have m4 := PySem.F.called_set.canCreate
  have m5 := PySem.F.typeCall_set_1 (.ref l)
  refine wpAny_call (codeAny_of_tree (show wpAny _ _ (callAny (.type "set") _) _ _ _ from wpAny_pure ⟨Code.quiet_builtin _ (by decide +kernel), codeAny_builtin PySem.F.entry_type_call ?_⟩))
  rw [Around.under_plain (weight_type_call_type "set" [.ref l] []) rfl]
  repeat (any_goals (first | assumption | wp_step))
  refine codeAny_mono (code_set_led1 (.ref l) (E := E) (Q₁ := fun o u => o = .ref s.heap.objs.size ∧ u = { s with heap := s.heap.push { cls := .type "set", dict := none, data := .set #[] 0 (.fresh 0 0 (ledB w)) } }) ⟨rfl, rfl⟩) fun r u hr => ?_
  cases r with
  | error e => exact hr
  | ok fl =>
    cases fl with
    | ret o =>
      obtain ⟨rfl, rfl⟩ := hr
      have g0 : (s.heap.push { cls := .type "set", dict := none, data := .set #[] 0 (.fresh 0 0 (ledB w)) }).get? s.heap.objs.size = some { cls := .type "set", dict := none, data := .set #[] 0 (.fresh 0 0 (ledB w)) } := Heap.get?_push_size _ rfl
      have g1 : Shared.TypeIs { s with heap := s.heap.push { cls := .type "set", dict := none, data := .set #[] 0 (.fresh 0 0 (ledB w)) } } (.ref s.heap.objs.size) "set" := ⟨_, g0, rfl⟩
      have g2 := PySem.F.called_set.init.lookup
      have g3 := PySem.F.called_set.init.bind (.ref s.heap.objs.size)
      repeat (any_goals (first | assumption | wp_step))
      refine codeAny_mono (codeAny_call_builtin (R := wants (fun r u2 => r = .none ∧ ∃ h' tk, u2 = { s with heap := h', toks := tk } ∧ SetL K h' s.heap.objs.size (ddL ws) ∧
          (∀ b o, b < s.heap.objs.size → s.heap.get? b = some o → h'.get? b = some o)) E) PySem.F.called_set.init.plain PySem.F.entry_set_init (check_set_init_1 g1 ?_)) fun r2 u2 hr2 => ?_
      · obtain ⟨⟨kc, kd, kt, ks⟩, ho, c1, nl, c2⟩ := hl
        simp only at c1 c2
        subst c1 c2
        have ho1 : (s.heap.push { cls := .type "set", dict := none, data := .set #[] 0 (.fresh 0 0 (ledB w)) }).get? l = some { cls := .type "list", dict := kd, data := .seq its nl, slots := ks } := Heap.get?_push_of_some _ ho
        have f1 := PySem.F.sub_list_set
        have f2 := PySem.F.sub_list_frozenset
        have f3 : (Value.type "list" == Value.type "dict") = false := by decide
        have hl1 : (s.heap.push { cls := .type "set", dict := none, data := .set #[] 0 (.fresh 0 0 (ledB w)) }).IsList l its := ⟨_, ho1, rfl, nl, rfl⟩
        unfold Builtin.«set.__init__» noKeywords Builtin.Frozenset.updateFrom
        generalize hg : pyIter = gi
        wp_walk
        subst hg
        refine wpAny_pyIter_list hl1 (wpAny_bind (wpAny_runValue ?_))
        have hlt : l < s.heap.objs.size := Heap.lt_size ho
        have hz : (s.heap.push { cls := .type "set", dict := none, data := .set #[] 0 (.fresh 0 0 (ledB w)) }).objs.size = s.heap.objs.size + 1 := Heap.size_push _ _
        have hn : l ≠ (s.heap.push { cls := .type "set", dict := none, data := .set #[] 0 (.fresh 0 0 (ledB w)) }).objs.size := by rw [hz]; exact Nat.ne_of_lt (Nat.lt_succ_of_lt hlt)
        have hf : s.heap.objs.size ∉ [(s.heap.push { cls := .type "set", dict := none, data := .set #[] 0 (.fresh 0 0 (ledB w)) }).objs.size, l] := by
          rw [hz]
          simp only [List.mem_cons, List.not_mem_nil, or_false, not_or]
          exact ⟨Nat.ne_of_lt (Nat.lt_succ_self _), fun z => Nat.lt_irrefl _ (z ▸ hlt)⟩
        refine loopU (K := K) ((Walks.list (by simp [hh]) _ l hn its).toS) s.heap.objs.size hf ws hsz (by rw [← hsz]; exact hb)
          hi its.size 0 _ (by omega) ⟨⟨_, Heap.get?_push_size _ rfl, rfl, rfl⟩, hl1.push _⟩ ?_ ?_
        · have g5 : ((s.heap.push { cls := .type "set", dict := none, data := .set #[] 0 (.fresh 0 0 (ledB w)) }).push { cls := .type "list_iterator", data := .fields #[.ref l, .int 0 0] }).get? s.heap.objs.size
              = some { cls := .type "set", dict := none, data := .set #[] 0 (.fresh 0 0 (ledB w)) } := Heap.get?_push_of_some _ g0
          exact setL_new g5
        · rintro ⟨h', g', d', tk', os'⟩ hm hS
          obtain rfl : g' = s.gens := hm.gens
          obtain rfl : d' = s.drawn := hm.drawn
          obtain rfl : os' = s.os := hm.os
          refine (show wpAny _ _ _ _ _ _ from wpAny_pure (show wpAny _ _ (ret Value.none) _ _ _ from wpAny_pure ⟨rfl, h', tk', rfl, hS, fun x o hx e => ?_⟩))
          refine hm.heap x o ?_ (Heap.get?_push_of_some _ (Heap.get?_push_of_some _ e))
          rw [hz]
          simp only [List.mem_cons, List.not_mem_nil, or_false, not_or]
          exact ⟨Nat.ne_of_lt hx, Nat.ne_of_lt (Nat.lt_succ_of_lt hx)⟩
      · cases r2 with
        | error e => exact hr2
        | ok f2 =>
          cases f2 with
          | ret r =>
            obtain ⟨rfl, h', tk, rfl, hS, hk⟩ := hr2
            repeat (any_goals (first | assumption | wp_step))
            exact h _ _ hS hk
          | _ => exact hr2.elim
    | _ => exact hr.elim
end
/-! ### sorted of it -/
section
variable {prog : Program} {w : World} {A : Around} {E : Value → Shared → Prop} {s : Shared} {a : Addr}
theorem sortedSetK {κ : Type} [DecidableEq κ] {K : Kv prog w κ} {L : List κ} {Q : Value → Shared → Prop} (R : SetL K s.heap a L) (hh : A.handled = none)
    (hs : ∀ (s1 : Shared) (vs : List Value) (xs : List κ), xs.Perm L → vs.length = L.length → (∀ (i : Nat) (v : Value), vs[i]? = some v → ∃ k t, xs[i]? = some k ∧ v = K.val k t) → (∀ b o, s.heap.get? b = some o → s1.heap.get? b = some o) → s1.gens = s.gens → s1.os = s.os →
      s1.heap.get? s1.heap.objs.size = none → s.heap.objs.size ≤ s1.heap.objs.size → ∀ (A' : Around),
      wpAny (model prog w) A' (Builtin.«list.sort» ⟨[.ref s1.heap.objs.size], []⟩) (fun f u => ∃ v, f = .done (.ret v) ∧ Q (.ref s1.heap.objs.size) u) E { s1 with heap := s1.heap.push (seqObj "list" vs.toArray 0) }) :
    wpAny (model prog w) A (call (.builtin "sorted") [.ref a]) Q E s := by
  obtain ⟨⟨o, es, ep, t, ho, hx, hd, g, pm, hb, hf, hr, hl⟩, nd⟩ := R
  refine Calls.call_function_entry kind_sorted plain_sorted entry_sorted (args_sorted1 _) ?_
  unfold Builtin.«sorted»
  refine wpAny_bind (m := checkCount "sorted" 1 1 _) (wpAny_pure ?_)
  refine wpAny_bind (collect_set (A := A.in1) hh ⟨o, ho, hx.1, hd⟩ hf hb hr hl fun s1 vs k1 hz g1 o1 pv => ?_)
  have lv : vs.length = L.length := by rw [pv.length_eq, List.length_map, ← pm.length_eq, List.length_map]
  have lb : vs.length ≤ sizeLine := by
    rw [pv.length_eq, List.length_map, Array.length_toList]
    exact fits_of_scanBound hb
  have px : (vs.map K.ko).Perm L := by
    refine ((pv.map K.ko).trans ?_).trans pm
    rw [List.map_map]
    exact .refl _
  have at1 : ∀ (i : Nat) (v : Value), vs[i]? = some v → ∃ k t, (vs.map K.ko)[i]? = some k ∧ v = K.val k t := fun i v e => by
    obtain ⟨e1, he, q⟩ := List.mem_map.mp (pv.mem_iff.mp (List.mem_of_getElem? e))
    obtain ⟨k, tk, h1, _⟩ := g e1 he
    refine ⟨k, tk, ?_, by rw [← q]; exact h1⟩
    rw [List.getElem?_map, e, ← q, Option.map_some, h1, K.koV]
  refine wpAny_bind (wpAny_newList ?_ lb)
  have fr : s1.heap.get? s1.heap.objs.size = none := by
    cases e : s1.heap.get? s1.heap.objs.size with
    | none => rfl
    | some o => exact absurd (Heap.lt_size e) (Nat.lt_irrefl _)
  have oL : (s1.heap.push (seqObj "list" vs.toArray 0)).get? s1.heap.objs.size = some (seqObj "list" vs.toArray 0) := Heap.get?_push_size _ rfl
  refine wpAny_bind (wpAny_holding (wpAny_mono (wpAny_call_entry (Q := fun _ u => Q (.ref s1.heap.objs.size) u) slot_list_sort ⟨_, oL, rfl⟩ entry_list_sort (hs s1 vs (vs.map K.ko) px lv at1 k1 g1 o1 fr hz _) (args_list_sort _)) (fun r u q => ?_) fun _ _ z => z))
  exact wpAny_pure ⟨_, rfl, q⟩
end
end Dl
/-! DL25: sorted(set(xs)); sorted of texts, of a table's keys; d.get(k, x). -/
namespace Dl
open PySem PySem.Spec PyProof.Rows L2
/-! ### the order of texts -/
def leS (a b : Str) : Prop := ltCps b.cps.toList a.cps.toList = false
instance (a b : Str) : Decidable (leS a b) := inferInstanceAs (Decidable (_ = _))
theorem leS_iff {a b : Str} : leS a b ↔ a.cps.toList ≤ b.cps.toList := by
  unfold leS
  rw [ltCps_eq, decide_eq_false_iff_not, List.not_lt]
theorem leS_trans {a b c : Str} (h : leS a b) (h2 : leS b c) : leS a c := leS_iff.mpr (List.le_trans (leS_iff.mp h) (leS_iff.mp h2))
theorem leS_anti {a b : Str} (h : leS a b) (h2 : leS b a) : a = b := by
  have e := List.le_antisymm (leS_iff.mp h) (leS_iff.mp h2)
  cases a
  cases b
  simpa using e
theorem leS_tot (a b : Str) : leS a b ∨ leS b a := by
  rw [leS_iff, leS_iff]
  exact List.le_total _ _
def insS (k : Str) : List Str → List Str
  | [] => [k]
  | x :: l => if leS k x then k :: x :: l else x :: insS k l
def srtS : List Str → List Str
  | [] => []
  | k :: l => insS k (srtS l)
theorem insS_perm (k : Str) : ∀ l, (insS k l).Perm (k :: l)
  | [] => .refl _
  | x :: l => by
    unfold insS
    split
    · exact .refl _
    · exact ((insS_perm k l).cons x).trans (.swap k x l)
theorem srtS_perm : ∀ l, (srtS l).Perm l
  | [] => .refl _
  | k :: l => (insS_perm k (srtS l)).trans ((srtS_perm l).cons k)
theorem insS_pw (k : Str) : ∀ {l : List Str}, l.Pairwise leS → (insS k l).Pairwise leS
  | [], _ => List.pairwise_singleton _ _
  | x :: l, h => by
    have h2 := List.pairwise_cons.mp h
    unfold insS
    split
    · rename_i c
      refine List.pairwise_cons.mpr ⟨fun y hy => ?_, h⟩
      rcases List.mem_cons.mp hy with rfl | hy
      · exact c
      · exact leS_trans c (h2.1 y hy)
    · rename_i c
      refine List.pairwise_cons.mpr ⟨fun y hy => ?_, insS_pw k h2.2⟩
      rcases List.mem_cons.mp ((insS_perm k l).mem_iff.mp hy) with rfl | hy
      · exact (leS_tot y x).elim (fun z => (c z).elim) id
      · exact h2.1 y hy
theorem srtS_pw : ∀ l, (srtS l).Pairwise leS
  | [] => .nil
  | k :: l => insS_pw k (srtS_pw l)
theorem srtS_one : ∀ {l m : List Str}, l.Perm m → l.Pairwise leS → m.Pairwise leS → l = m
  | [], m, p, _, _ => (List.Perm.nil_eq p)
  | x :: l, [], p, _, _ => (List.Perm.eq_nil p)
  | x :: l, y :: m, p, h1, h2 => by
    have a := List.pairwise_cons.mp h1
    have b := List.pairwise_cons.mp h2
    have r : ∀ z : Str, leS z z := fun z => (leS_tot z z).elim id id
    have e : x = y := by
      refine leS_anti ?_ ?_
      · rcases List.mem_cons.mp (p.mem_iff.mpr (List.mem_cons_self (a := y) (l := m))) with z | z
        · rw [z]; exact r _
        · exact a.1 y z
      · rcases List.mem_cons.mp (p.mem_iff.mp (List.mem_cons_self (a := x) (l := l))) with z | z
        · rw [z]; exact r _
        · exact b.1 x z
    subst e
    rw [srtS_one (List.perm_cons _ |>.mp p) a.2 b.2]
theorem rising_pw : ∀ (l : List Str) (p : Str), risingS p l = true → (p :: l).Pairwise leS
  | [], p, _ => List.pairwise_singleton _ _
  | x :: l, p, h => by
    have h : (!ltCps x.cps.toList p.cps.toList && risingS x l) = true := h
    rw [Bool.and_eq_true, Bool.not_eq_true'] at h
    have ih := rising_pw l x h.2
    refine List.pairwise_cons.mpr ⟨fun y hy => ?_, ih⟩
    rcases List.mem_cons.mp hy with rfl | hy
    · exact h.1
    · exact leS_trans h.1 ((List.pairwise_cons.mp ih).1 y hy)
theorem sortedS_pw : ∀ {l : List Str}, sortedS l = true → l.Pairwise leS
  | [], _ => .nil
  | x :: l, h => rising_pw l x h
theorem sortedS_srt {l m : List Str} (p : l.Perm m) (h : sortedS l = true) : l = srtS m := srtS_one (p.trans (srtS_perm m).symm) (sortedS_pw h) (srtS_pw m)
/-! ### sorted of ints, of texts, of a table's keys -/
def keysT : List (Key × D) → Option (List Str)
  | [] => some []
  | (.inr x, _) :: l => (keysT l).map (x :: ·)
  | _ :: _ => none
def sortD : D → Option (List D)
  | .lst l => match intsD l with
    | some ns => some ((srtI ns).map .int)
    | none => (l.mapM strOf).bind fun xs => if xs.length ≤ sizeLine then some ((srtS xs).map .str) else none
  | .dct l => (keysT l).bind fun xs => if xs.length < 64 then some ((srtS xs).map .str) else none
  | _ => none
def sortedAD : List D → Option D
  | [d] => (sortD d).map .lst
  | _ => none
def rSrt (K : PySem.W.Frag) : List V → Hp → VK → Prop := fun xs H Q => rSortedI K xs H Q ∨
  (∃ (a : Addr) (ys : List Str), xs = [V.ref a] ∧ SqL K H a (ys.map V.str) ∧ ∀ p, H p = none → Q (.ref p) (upd H p (.lst ((srtS ys).map V.str)))) ∨
  (∃ (a : Addr) (kvs : List (Key × V)) (ks : List Str), xs = [.ref a] ∧ Rd H a (.dK kvs) ∧ kvs.map (·.1) = ks.map Sum.inr ∧ ks.length < 64 ∧ ∀ ys p, ys.Perm ks → sortedS ys = true → H p = none → Q (.ref p) (upd H p (.lst (ys.map V.str))))
theorem cr_sortTxt {X : Cx} : CallR X (.builtin "sorted") (fun xs H Q => ∃ (a : Addr) (ys : List Str), xs = [V.ref a] ∧ SqL X.K H a (ys.map V.str) ∧ ∀ p, H p = none → Q (.ref p) (upd H p (.lst ((srtS ys).map V.str)))) := by
  intro pins s σ H vs us Q I r h
  obtain ⟨a, xs, rfl, hs, q⟩ := h
  obtain ⟨its, rv, hl, hz⟩ := I.list hs
  rw [Vals.ref1 r]
  refine PyProof.Rows.sorted_strsAny hl.isList rv.strs (by rw [← rv.length]; exact hz) fun out ys h1 h2 h3 => ?_
  obtain ⟨ep, he'⟩ := PyProof.Rows.sortedAll_at s.heap its out
  have e := sortedS_srt h2 h3
  subst e
  have hlen : ((srtS xs).map V.str).length ≤ sizeLine := by
    rw [List.length_map, h2.length_eq]
    rw [List.length_map] at hz
    exact hz
  exact ⟨.ref _, upd H (s.heap.objs.size + 1) (.lst ((srtS xs).map V.str)), I.laid (t' := s.toks) (fun _ _ => PyProof.Rows.sortedAll_old) (Nat.le_succ _) ⟨hlen, out.toList, ep, vals_of_strs h1, he'⟩, rfl, q _ (I.hok.fresh (Nat.le_succ _))⟩
theorem cr_srt {X : Cx} (hc : X.calm = true) : CallR X (.builtin "sorted") (rSrt X.K) := CallR.or cr_sortedI (CallR.or cr_sortTxt (call_sortedD hc))
theorem reps_strs {R : RX} {I : Addr → Prop} {H : Hp} : ∀ xs : List Str, Reps R I H (xs.map V.str) (xs.map D.str)
  | [] => .nil
  | n :: ns => .cons (.str n) (reps_strs ns)
theorem RepK.texts {R : RX} {I : Addr → Prop} {H : Hp} : ∀ {kvs : List (Key × V)} {l : List (Key × D)} {xs : List Str}, RepK R I H kvs l → keysT l = some xs → kvs.map (·.1) = xs.map Sum.inr
  | _, _, _, .nil, e => by cases e; rfl
  | _, _, xs, .cons (k := k) r t, e => by
    cases k with
    | inl i => cases e
    | inr x =>
      obtain ⟨ys, e1, rfl⟩ := Option.map_eq_some_iff.mp (show (keysT _).map (x :: ·) = some xs from e)
      rw [List.map_cons, List.map_cons, RepK.texts t e1]
theorem srt_ok {R : RX} : CallD R (rSrt R.K) sortedAD := by
  intro I H xs ds z Q r e k
  unfold sortedAD at e
  split at e
  · rename_i d
    obtain ⟨l, e1, rfl⟩ := Option.map_eq_some_iff.mp e
    obtain ⟨v, rfl, q⟩ := reps1 r
    have fin : ∀ (ys : List V) (p : Addr), H p = none → (∀ H', Reps R (fun a => I a ∨ a = p) H' ys l) → Q (.ref p) (upd H p (.lst ys)) := fun ys p hp h =>
      k (.ref p) (fun a => I a ∨ a = p) _ (same_upd hp) (fun a h => .inl h) (fun a h => h.imp (fun z => z) fun (e : a = p) => by rw [e]; exact hp) (.lst (.inr rfl) upd_same (h _))
    unfold sortD at e1
    split at e1
    · cases q with
      | lst h1 h2 t =>
        split at e1
        · rename_i ns e2
          cases e1
          rw [t.allInt e2] at h2
          refine .inl ⟨_, ns, rfl, .of h2, fun ns' p pm pw hp => ?_⟩
          rw [srt_one (pm.trans (srtI_perm ns).symm) pw (srtI_pw ns)]
          exact fin _ p hp fun H' => reps_ints _
        · obtain ⟨xs, e3, e4⟩ := Option.bind_eq_some_iff.mp e1
          split at e4
          · cases e4
            rw [t.strs e3] at h2
            exact .inr (.inl ⟨_, xs, rfl, .of h2, fun p hp => fin _ p hp fun H' => reps_strs _⟩)
          · cases e4
    · cases q with
      | dct h1 h2 t =>
        obtain ⟨xs, e3, e4⟩ := Option.bind_eq_some_iff.mp e1
        split at e4
        · rename_i hz
          cases e4
          refine .inr (.inr ⟨_, _, xs, rfl, h2, t.texts e3, hz, fun ys p pm st hp => ?_⟩)
          rw [sortedS_srt pm st]
          exact fin _ p hp fun H' => reps_strs _
        · cases e4
    · cases e1
  · cases e
/-! ### sorted(set(xs)) -/
theorem ints_of_at : ∀ {vs : List Value} {xs : List Int}, vs.length = xs.length → (∀ (i : Nat) (v : Value), vs[i]? = some v → ∃ k t, xs[i]? = some k ∧ v = .int k t) → IntsAre vs xs
  | [], [], _, _ => .nil
  | v :: vs, x :: xs, l, h => by
    obtain ⟨k, t, e1, rfl⟩ := h 0 v rfl
    cases e1
    exact .cons _ t (ints_of_at (by simpa using l) fun i u e => by simpa using h (i + 1) u (by simpa using e))
theorem strs_of_at : ∀ {vs : List Value} {xs : List Str}, vs.length = xs.length → (∀ (i : Nat) (v : Value), vs[i]? = some v → ∃ k t, xs[i]? = some k ∧ v = .str k t) → StrsAre vs xs
  | [], [], _, _ => .nil
  | v :: vs, x :: xs, l, h => by
    obtain ⟨k, t, e1, rfl⟩ := h 0 v rfl
    cases e1
    exact .cons _ t (strs_of_at (by simpa using l) fun i u e => by simpa using h (i + 1) u (by simpa using e))
theorem at_of_ints {vs : List Value} {xs : List Int} (h : IntsAre vs xs) : ∀ (i : Nat) (v : Value), vs[i]? = some v → ∃ k t, xs[i]? = some k ∧ v = .int k t := by
  induction h with
  | nil => intro i v e; simp at e
  | cons n t _ ih =>
    intro i v e
    cases i with
    | zero => simp at e; exact ⟨n, t, rfl, e.symm⟩
    | succ i => simpa using ih i v (by simpa using e)
theorem at_of_strs {vs : List Value} {xs : List Str} (h : StrsAre vs xs) : ∀ (i : Nat) (v : Value), vs[i]? = some v → ∃ k t, xs[i]? = some k ∧ v = .str k t := by
  induction h with
  | nil => intro i v e; simp at e
  | cons n t _ ih =>
    intro i v e
    cases i with
    | zero => simp at e; exact ⟨n, t, rfl, e.symm⟩
    | succ i => simpa using ih i v (by simpa using e)
def tSortSet (K : PySem.W.Frag) (ta : TE) : TE := fun σ H Q => ta σ H fun x H1 => (∃ l, ∃ xs : List Int, x = .ref l ∧ SqL K H1 l (xs.map V.int) ∧ xs.length ≤ 4000 ∧ ∀ p, H1 p = none → Q (.ref p) (upd H1 p (.lst ((srtI (ddL xs)).map V.int)))) ∨
  (∃ l, ∃ xs : List Str, x = .ref l ∧ SqL K H1 l (xs.map V.str) ∧ xs.length ≤ 4000 ∧ ∀ p, H1 p = none → Q (.ref p) (upd H1 p (.lst ((srtS (ddL xs)).map V.str))))
theorem pe_sortSet {X : Cx} {a : Expr} {ta : TE} {p p2 q pos : Pos} (hc : X.calm = true) (hg : Gl X "sorted") (hm : X.mg "sorted" = none) (hg2 : Gl X "set") (hm2 : X.mg "set" = none) (ha : PE X a ta)
    (na : starEach [a] X.env = (false, eval a X.env) :: starEach [] X.env := by rfl) : PE X (.Call (.Name "sorted" p) [.Call (.Name "set" p2) [a] [] q] [] pos) (tSortSet X.K ta) := ⟨fun pins s σ H Q I h => by
  refine Call_ (ld_blt I hg hm boot_sorted (callWith_builtin1 (args_cons (Call_ (ld_blt I hg2 hm2 boot_set (callWith_type1 (args_cons (thn (ha.run pins s σ H _ I h) fun v s1 ⟨x, H1, I1, r1, q1⟩ => args_nil ?_) na) na rfl))) rfl) rfl rfl))
  rcases q1 with ⟨l, xs, ex, hq, hb, q1⟩ | ⟨l, xs, ex, hq, hb, q1⟩
  · subst ex
    cases r1
    obtain ⟨its, r, pl, hz⟩ := I1.list hq
    have hi := at_of_ints r.ints
    refine setOfK (K := kvI X.prog X.w) (I1.ok.hd hc) pl.isList (ws := xs) (fun i v e => hi i v (by simpa using e)) (by have := r.length; simpa using this) (by unfold scanBound; omega) fun h' tk hS hk => args_nil ?_
    have le := ddL_le xs
    have I2 : Inv X pins σ H1 { s1 with heap := h', toks := tk } := I1.kept fun b o e => hk b o (Heap.lt_size e) e
    refine sortedSetK hS (I1.ok.hd hc) fun s3 vs ys pm lv at1 k3 g3 o3 fr hz3 A' => ?_
    have hI : IntsAre vs ys := ints_of_at (by rw [lv, pm.length_eq]) at1
    have oL : (s3.heap.push (seqObj "list" vs.toArray 0)).get? s3.heap.objs.size = some (seqObj "list" vs.toArray 0) := Heap.get?_push_size _ rfl
    refine list_sort_treeAny (s := { s3 with heap := s3.heap.push (seqObj "list" vs.toArray 0) }) oL hI (by rw [lv, sizeLine_eq]; omega) fun out ns a1 a2 a3 => ⟨_, rfl, ?_⟩
    obtain ⟨c, hcell⟩ := sortedHeap_at (vs := vs) (out := out) oL
    have en : ns = srtI (ddL xs) := srt_one ((a2.trans pm).trans (srtI_perm _).symm) a3 (srtI_pw _)
    subst en
    have old : ∀ b o, h'.get? b = some o → (sortedHeap (s3.heap.push (seqObj "list" vs.toArray 0)) s3.heap.objs.size vs out).get? b = some o := fun b o e => by
      have q := k3 b o e
      have hlt := Heap.lt_size q
      rw [sortedHeap_old (Nat.ne_of_lt hlt) (by rw [size_push']; exact Nat.lt_succ_of_lt hlt)]
      exact Heap.get?_push_of_some _ q
    have hn : H1 s3.heap.objs.size = none := I2.hok.fresh hz3
    have hlen : ((srtI (ddL xs)).map V.int).length ≤ sizeLine := by rw [List.length_map, (srtI_perm _).length_eq, sizeLine_eq]; omega
    have J : Inv X pins σ (upd H1 s3.heap.objs.size (.lst ((srtI (ddL xs)).map V.int))) { s3 with heap := sortedHeap (s3.heap.push (seqObj "list" vs.toArray 0)) s3.heap.objs.size vs out } := by
      have e : ({ s3 with heap := sortedHeap (s3.heap.push (seqObj "list" vs.toArray 0)) s3.heap.objs.size vs out } : Shared) = { s1 with heap := sortedHeap (s3.heap.push (seqObj "list" vs.toArray 0)) s3.heap.objs.size vs out, gens := s3.gens, drawn := s3.drawn, toks := s3.toks } := by
        cases s3
        cases s1
        cases o3
        rfl
      rw [e]
      exact Inv.call (s := { s1 with heap := h', toks := tk }) (ch := []) I2 (Un.laid old hz3 hn) (I2.hok.laid old hz3 ⟨hlen, out.toList, c, vals_of_ints a1, hcell⟩) (by rw [g3]; exact I2.bare) (fun _ z => nomatch z)
    exact ⟨.ref s3.heap.objs.size, _, J, rfl, q1 _ hn⟩
  · subst ex
    cases r1
    obtain ⟨its, r, pl, hz⟩ := I1.list hq
    have hi := at_of_strs r.strs
    refine setOfK (K := kvS X.prog X.w) (I1.ok.hd hc) pl.isList (ws := xs) (fun i v e => hi i v (by simpa using e)) (by have := r.length; simpa using this) (by unfold scanBound; omega) fun h' tk hS hk => args_nil ?_
    have le := ddL_le xs
    have I2 : Inv X pins σ H1 { s1 with heap := h', toks := tk } := I1.kept fun b o e => hk b o (Heap.lt_size e) e
    refine sortedSetK hS (I1.ok.hd hc) fun s3 vs ys pm lv at1 k3 g3 o3 fr hz3 A' => ?_
    have hI : StrsAre vs ys := strs_of_at (by rw [lv, pm.length_eq]) at1
    have oL : (s3.heap.push (seqObj "list" vs.toArray 0)).get? s3.heap.objs.size = some (seqObj "list" vs.toArray 0) := Heap.get?_push_size _ rfl
    refine list_sort_treeKAny (s := { s3 with heap := s3.heap.push (seqObj "list" vs.toArray 0) }) strKind_oneLt oL hI.keysOf (fun v₁ v₂ rest e => keyKind_strs (by rw [← e]; exact hI)) (by rw [lv, sizeLine_eq]; omega) fun st' hp hs => ⟨_, rfl, ?_⟩
    obtain ⟨ns, a1, a2, a3⟩ := sorted_out_str hI hp hs
    generalize (arrOf st').map (·.2) = out at *
    obtain ⟨c, hcell⟩ := sortedHeap_at (vs := vs) (out := out) oL
    have en : ns = srtS (ddL xs) := (sortedS_srt (a2.trans pm) a3)
    subst en
    have old : ∀ b o, h'.get? b = some o → (sortedHeap (s3.heap.push (seqObj "list" vs.toArray 0)) s3.heap.objs.size vs out).get? b = some o := fun b o e => by
      have q := k3 b o e
      have hlt := Heap.lt_size q
      rw [sortedHeap_old (Nat.ne_of_lt hlt) (by rw [size_push']; exact Nat.lt_succ_of_lt hlt)]
      exact Heap.get?_push_of_some _ q
    have hn : H1 s3.heap.objs.size = none := I2.hok.fresh hz3
    have hlen : ((srtS (ddL xs)).map V.str).length ≤ sizeLine := by rw [List.length_map, (srtS_perm _).length_eq, sizeLine_eq]; omega
    have J : Inv X pins σ (upd H1 s3.heap.objs.size (.lst ((srtS (ddL xs)).map V.str))) { s3 with heap := sortedHeap (s3.heap.push (seqObj "list" vs.toArray 0)) s3.heap.objs.size vs out } := by
      have e : ({ s3 with heap := sortedHeap (s3.heap.push (seqObj "list" vs.toArray 0)) s3.heap.objs.size vs out } : Shared) = { s1 with heap := sortedHeap (s3.heap.push (seqObj "list" vs.toArray 0)) s3.heap.objs.size vs out, gens := s3.gens, drawn := s3.drawn, toks := s3.toks } := by
        cases s3
        cases s1
        cases o3
        rfl
      rw [e]
      exact Inv.call (s := { s1 with heap := h', toks := tk }) (ch := []) I2 (Un.laid old hz3 hn) (I2.hok.laid old hz3 ⟨hlen, out.toList, c, vals_of_strs a1, hcell⟩) (by rw [g3]; exact I2.bare) (fun _ z => nomatch z)
    exact ⟨.ref s3.heap.objs.size, _, J, rfl, q1 _ hn⟩⟩
def sortSetD : D → Option D
  | .lst l => if l.length ≤ 4000 then match intsD l with
    | some ns => some (.lst ((srtI (ddL ns)).map .int))
    | none => (l.mapM strOf).map fun xs => .lst ((srtS (ddL xs)).map .str)
    else none
  | _ => none
def mSortSet (f : M D) : M D := fun Γ => (f Γ).bind fun x Γ1 => optO (sortSetD x) Γ1
section
variable {X : Cx} {R : RX} {Wx : WX} {W B : List Nat} {a : Expr} {q pos : Pos}
theorem intsD_len : ∀ {l : List D} {ns : List Int}, intsD l = some ns → ns.length = l.length
  | [], _, e => by cases e; rfl
  | d :: l, ns, e => by
    cases d <;> first | (cases e; done) | skip
    rename_i i
    obtain ⟨ms, e1, rfl⟩ := Option.map_eq_some_iff.mp (show (intsD l).map (i :: ·) = some ns from e)
    rw [List.length_cons, List.length_cons, intsD_len e1]
theorem Reps.strs_len {I : Addr → Prop} {H : Hp} {vs : List V} {ds : List D} {xs : List Str} (r : Reps R I H vs ds) (e : ds.mapM strOf = some xs) : xs.length = ds.length := by
  rw [← r.length, r.strs e, List.length_map]
theorem de_sortSet {f : M D} {p p2 : Pos} (hc : X.calm = true) (hg : Gl X "sorted") (hm : X.mg "sorted" = none) (hg2 : Gl X "set") (hm2 : X.mg "set" = none) (hK : R.K = X.K) (ha : PE X a (tD R Wx f B W))
    (na : starEach [a] X.env = (false, eval a X.env) :: starEach [] X.env := by rfl) : PE X (.Call (.Name "sorted" p) [.Call (.Name "set" p2) [a] [] q] [] pos) (tD R Wx (mSortSet f) B W) :=
  PE.imp (pe_sortSet hc hg hm hg2 hm2 ha na) fun σ H Q ⟨Γ, I, F, sa, g⟩ => by
    refine ⟨Γ, I, F, sa, (g.bind (W1 := W) (W2 := []) (fun i h => h) (fun i h => nomatch h)).imp fun x Γ1 I1 F1 H1 sa1 s1 g1 v rv => ?_⟩
    cases e : sortSetD x with
    | none => rw [e] at g1; exact g1.elim
    | some z =>
      rw [e] at g1
      have k := g1.fin (B := B) sa1
      cases x <;> first | (cases e; done) | skip
      rename_i l
      have e : (if l.length ≤ 4000 then (match intsD l with
        | some ns => some (D.lst ((srtI (ddL ns)).map .int))
        | none => (l.mapM strOf).map fun xs => D.lst ((srtS (ddL xs)).map .str)) else none) = some z := e
      split at e
      · rename_i hz
        cases rv with
        | lst h1 h2 t =>
          split at e
          · rename_i ns e2
            cases e
            have ln := intsD_len e2
            rw [t.allInt e2] at h2
            refine .inl ⟨_, ns, rfl, .of h2, by omega, fun p hp => ?_⟩
            exact k (.ref p) (fun a => J I1 F1 B a ∨ a = p) _ (same_upd hp) (fun a h => .inl h) (fun a h => h.imp (fun z => z) fun (e : a = p) => by rw [e]; exact hp) (.lst (.inr rfl) upd_same (reps_ints _))
          · obtain ⟨xs, e3, rfl⟩ := Option.map_eq_some_iff.mp e
            have ln := t.strs_len e3
            rw [t.strs e3] at h2
            refine .inr ⟨_, xs, rfl, .of h2, by omega, fun p hp => ?_⟩
            exact k (.ref p) (fun a => J I1 F1 B a ∨ a = p) _ (same_upd hp) (fun a h => .inl h) (fun a h => h.imp (fun z => z) fun (e : a = p) => by rw [e]; exact hp) (.lst (.inr rfl) upd_same (reps_strs _))
      · cases e
end
end Dl
/-! DL26: d.get(k), d.get(k, x); a, b = new containers. -/
namespace Dl
open PySem PySem.Spec PyProof.Rows L2
section
variable {X : Cx} {R : RX} {Wx : WX} {P W Wa Wb Wc B Ba Bb Bc : List Nat} {a b c e o f : Expr} {es : List Expr} {pos apos cpos : Pos}
def get1D (x y : D) : Option D := match x with
  | .dct l => (keyD y).map fun k => (valK l k).getD .non
  | _ => none
def get2D (x y z : D) : Option D := match x with
  | .dct l => (keyD y).map fun k => (valK l k).getD z
  | _ => none
def mGet2 (fa fb fc : M D) : M D := fun Γ => (fa Γ).bind fun x Γ1 => (fb Γ1).bind fun y Γ2 => (fc Γ2).bind fun z Γ3 => optO (get2D x y z) Γ3
def isDct : D → Bool
  | .dct _ => true
  | _ => false
def mGet2' (fa fb fc : M D) : M D := fun Γ => (fa Γ).bind fun x Γ1 => if isDct x = true then (fb Γ1).bind fun y Γ2 => (fc Γ2).bind fun z Γ3 => optO (get2D x y z) Γ3 else .bad
theorem de_get2 {fa fb fc : M D} (hu : X.A.units + 65 < cLine) (ho : PE X o (tD R Wx fa Ba Wa)) (he : PE X e (tD R Wx fb Bb Wb)) (hf : PE X f (tD R Wx fc Bc Wc)) (m : M2 X o "get" apos e f cpos)
    (hd : ∀ i ∈ Ba, i ∉ Wb ++ Wc := by decide) (hd2 : ∀ i ∈ Bb, i ∉ Wc := by decide) :
    PE X (.Call (.Attribute o "get" apos) [e, f] [] cpos) (tD R Wx (mGet2' fa fb fc) (Ba ++ Bc) (Wa ++ (Wb ++ Wc))) := PE.imp (pe_dget2 (by omega) ho he hf m) fun σ H Q ⟨Γ, I, F, sa, g⟩ => by
  refine ⟨Γ, I, F, sa, (g.bind (W1 := Wa) (W2 := Wb ++ Wc) (fun i h => List.mem_append_left _ h) (fun i h => List.mem_append_right _ h)).imp fun x Γ1 I1 F1 H1 sa1 s1 g1 v rv => ?_⟩
  cases hx : isDct x with
  | false =>
    rw [hx] at g1
    exact g1.elim
  | true =>
    rw [hx] at g1
    simp only [if_true] at g1
    cases x <;> first | (cases hx; done) | skip
    rename_i l
    have rv0 := rv
    cases rv with
    | dct h1 h2 t =>
      refine ⟨_, rfl, .inl ⟨_, h2⟩, Γ1, I1, F1, sa1, (g1.bind (W1 := Wb) (W2 := Wc) (fun i h => List.mem_append_left _ h) (fun i h => List.mem_append_right _ h)).imp fun y Γ2 I2 F2 H2 sa2 s2 g2 u ru => ?_⟩
      refine ⟨Γ2, I2, F2, sa2, (g2.bind (W1 := Wc) (W2 := []) (fun i h => h) (fun i h => nomatch h)).imp fun z Γ3 I3 F3 H3 sa3 s3 g3 w rw_ => ?_⟩
      have r3 : Rep R (J I3 F3 Ba) H3 _ (.dct l) := (rv0.stp sa1 s2 fun i hi h => hd i hi (List.mem_append_left _ h)).stp sa2 s3 fun i hi h => hd i hi (List.mem_append_right _ h)
      cases e : get2D (.dct l) y z with
      | none => rw [e] at g3; exact g3.elim
      | some d =>
        rw [e] at g3
        obtain ⟨ky, e1, rfl⟩ := Option.map_eq_some_iff.mp (show (keyD y).map (fun k => (valK l k).getD z) = some d from e)
        obtain rfl := ru.key e1
        cases r3 with
        | dct h1 h2 t =>
          rcases t.val (k := ky) with ⟨n1, n2⟩ | ⟨d', v', a1, a2, q⟩
          · refine ⟨none, .inl ⟨_, ky, h2, rfl, n2.symm⟩, g3.fin0 sa3 ?_⟩
            rw [n1]
            exact rw_.reg (J.mono fun i h => List.mem_append_right _ h)
          · refine ⟨some v', .inl ⟨_, ky, h2, rfl, a2.symm⟩, g3.fin0 sa3 ?_⟩
            rw [a1]
            exact q.reg (J.mono fun i h => List.mem_append_left _ h)
def mGet1 (fa fb : M D) : M D := fun Γ => (fa Γ).bind fun x Γ1 => if isDct x = true then (fb Γ1).bind fun y Γ2 => optO (get1D x y) Γ2 else .bad
theorem de_get1 {fa fb : M D} (hu : X.A.units + 65 < cLine) (ho : PE X o (tD R Wx fa Ba Wa)) (he : PE X e (tD R Wx fb Bb Wb)) (m : M1 X o "get" apos e cpos)
    (hd : ∀ i ∈ Ba, i ∉ Wb := by decide) :
    PE X (.Call (.Attribute o "get" apos) [e] [] cpos) (tD R Wx (mGet1 fa fb) Ba (Wa ++ Wb)) := PE.imp (pe_dget1 (by omega) ho he m) fun σ H Q ⟨Γ, I, F, sa, g⟩ => by
  refine ⟨Γ, I, F, sa, (g.bind (W1 := Wa) (W2 := Wb) (fun i h => List.mem_append_left _ h) (fun i h => List.mem_append_right _ h)).imp fun x Γ1 I1 F1 H1 sa1 s1 g1 v rv => ?_⟩
  cases hx : isDct x with
  | false =>
    rw [hx] at g1
    exact g1.elim
  | true =>
    rw [hx] at g1
    simp only [if_true] at g1
    cases x <;> first | (cases hx; done) | skip
    rename_i l
    have rv0 := rv
    cases rv with
    | dct h1 h2 t =>
      refine ⟨_, rfl, .inl ⟨_, h2⟩, Γ1, I1, F1, sa1, (g1.bind (W1 := Wb) (W2 := []) (fun i h => h) (fun i h => nomatch h)).imp fun y Γ2 I2 F2 H2 sa2 s2 g2 u ru => ?_⟩
      have r3 : Rep R (J I2 F2 Ba) H2 _ (.dct l) := rv0.stp sa1 s2 hd
      cases e : get1D (.dct l) y with
      | none => rw [e] at g2; exact g2.elim
      | some d =>
        rw [e] at g2
        obtain ⟨ky, e1, rfl⟩ := Option.map_eq_some_iff.mp (show (keyD y).map (fun k => (valK l k).getD .non) = some d from e)
        obtain rfl := ru.key e1
        cases r3 with
        | dct h1 h2 t =>
          rcases t.val (k := ky) with ⟨n1, n2⟩ | ⟨d', v', a1, a2, q⟩
          · refine ⟨none, .inl ⟨_, ky, h2, rfl, n2.symm⟩, g2.fin0 sa2 ?_⟩
            rw [n1]
            exact .non
          · refine ⟨some v', .inl ⟨_, ky, h2, rfl, a2.symm⟩, g2.fin0 sa2 ?_⟩
            rw [a1]
            exact q
end
/-! ### several new values at once -/
/-- a value, or a new container N of one's own -/
def NewR (R : RX) (I : Addr → Prop) (F : Fps) (H : Hp) (v : V) (d : D) (N : Addr → Prop) : Prop := match d with
  | .own c => ORep R I H v c N ∧ ∀ a, N a → Own1 I F H a
  | d => Rep R I H v d ∧ ∀ a, ¬ N a
section
variable {R : RX} {Wx : WX} {I I1 I2 : Addr → Prop} {F F1 F2 : Fps} {Γ Γ1 : Env} {σ : L2.St} {H H1 H2 : Hp} {W P : List Nat}
theorem NewR.of {v : V} {d : D} (h : Rep R I H v d) : NewR R I F H v d (fun _ => False) := by
  cases d <;> first | exact ⟨h, fun _ h => h⟩ | cases h
theorem NewR.stp {v : V} {d : D} {N : Addr → Prop} (h : NewR R I1 F1 H1 v d N) (sa : SA R I1 F1 Γ1 σ H1) (s : Stp W I1 F1 H1 I2 F2 H2) : NewR R I2 F2 H2 v d N := by
  have ex : Ext (J I1 F1 []) H1 H2 := sa.ext s fun i hi => nomatch hi
  have ex1 : Ext I1 H1 H2 := ⟨fun a o x e => ex.i a o (.inl x) e, ex.t, ex.f⟩
  by_cases hd : ∃ c, d = .own c
  · obtain ⟨c, rfl⟩ := hd
    obtain ⟨r, q⟩ := h
    have kp : ∀ a o, N a → H1 a = some o → H2 a = some o := fun a o x e => s.keep a o e fun i _ => (q a x).2.1 i
    refine ⟨r.ext ex1 s.imo kp, fun a x => ?_⟩
    obtain ⟨q1, q2, o, q3, q4⟩ := q a x
    have hn : H1 a ≠ none := by rw [q3]; exact Option.some_ne_none o
    refine ⟨fun y => ?_, fun j y => ?_, o, kp a o x q3, q4⟩
    · rcases s.ifr a y with z | ⟨j, _, z⟩ | z
      · exact q1 z
      · exact q2 j z
      · exact hn z
    · rcases s.fre j a y with ⟨i, _, z⟩ | z | z
      · exact q2 i z
      · exact q2 j z
      · exact hn z
  · cases d <;> first | exact ⟨h.1.ext ex1 s.imo, h.2⟩ | exact (hd ⟨_, rfl⟩).elim
theorem NewR.fresh {v : V} {d : D} {N : Addr → Prop} (h : NewR R I F H v d N) (a : Addr) (x : N a) : H a ≠ none ∧ ∀ j, ¬ F j a := by
  by_cases hd : ∃ c, d = .own c
  · obtain ⟨c, rfl⟩ := hd
    obtain ⟨q1, q2, o, q3, _⟩ := h.2 a x
    exact ⟨by rw [q3]; exact Option.some_ne_none o, q2⟩
  · exfalso
    cases d <;> first | exact h.2 a x | exact hd ⟨_, rfl⟩
theorem SA.putN (sa : SA R I F Γ σ H) {i : Nat} {v : V} {d : D} {N : Addr → Prop} (hi : i < Γ.length) (r : NewR R I F H v d N) : SA R I (fun j a => (j ≠ i ∧ F j a) ∨ (j = i ∧ N a)) (Γ.set i (some d)) (σ.set i (some v)) H := by
  by_cases hd : ∃ c, d = .own c
  · obtain ⟨c, rfl⟩ := hd
    exact sa.setO hi r.1 (fun a x => (r.2 a x).1) (fun j a x y => (r.2 a y).2.1 j x) fun a x => (r.2 a x).2.2
  · have q : Rep R I H v d ∧ ∀ a, ¬ N a := by
      cases d <;> first | exact r | exact (hd ⟨_, rfl⟩).elim
    have e : (fun j a => (j ≠ i ∧ F j a) ∨ (j = i ∧ N a)) = fun j a => j ≠ i ∧ F j a := funext fun j => funext fun a => propext ⟨fun x => x.elim id fun y => (q.2 a y.2).elim, .inl⟩
    rw [e]
    exact sa.set hi q.1
inductive NRs (R : RX) (I : Addr → Prop) (F : Fps) (H : Hp) : List V → List D → (Addr → Prop) → Prop
  | nil : NRs R I F H [] [] (fun _ => False)
  | cons {v : V} {d : D} {N : Addr → Prop} {vs : List V} {ds : List D} {M : Addr → Prop} : NewR R I F H v d N → NRs R I F H vs ds M → (∀ a, N a → ¬ M a) → NRs R I F H (v :: vs) (d :: ds) (fun a => N a ∨ M a)
theorem NRs.len {vs : List V} {ds : List D} {M : Addr → Prop} (h : NRs R I F H vs ds M) : vs.length = ds.length := by
  induction h with
  | nil => rfl
  | cons _ _ _ ih => rw [List.length_cons, List.length_cons, ih]
theorem NewR.after {v : V} {d : D} {N N0 : Addr → Prop} {i : Nat} (h : NewR R I F H v d N) (hn : ∀ a, N a → ¬ N0 a) : NewR R I (fun j a => (j ≠ i ∧ F j a) ∨ (j = i ∧ N0 a)) H v d N := by
  by_cases hd : ∃ c, d = .own c
  · obtain ⟨c, rfl⟩ := hd
    exact ⟨h.1, fun a x => ⟨(h.2 a x).1, fun j y => y.elim (fun z => (h.2 a x).2.1 j z.2) fun z => hn a x z.2, (h.2 a x).2.2⟩⟩
  · cases d <;> first | exact h | exact (hd ⟨_, rfl⟩).elim
theorem NRs.after {vs : List V} {ds : List D} {M N0 : Addr → Prop} {i : Nat} (h : NRs R I F H vs ds M) : (∀ a, N0 a → ¬ M a) → NRs R I (fun j a => (j ≠ i ∧ F j a) ∨ (j = i ∧ N0 a)) H vs ds M := by
  induction h with
  | nil => exact fun _ => .nil
  | cons h t hd ih => exact fun hn => .cons (h.after fun a x y => hn a y (.inl x)) (ih fun a x y => hn a x (.inr y)) hd
def setAll : List Nat → List D → Env → Env
  | i :: is, d :: ds, Γ => setAll is ds (Γ.set i (some d))
  | _, _, Γ => Γ
def setAllV : List Nat → List V → L2.St → L2.St
  | i :: is, v :: vs, σ => setAllV is vs (σ.set i (some v))
  | _, _, σ => σ
theorem SA.putAll : ∀ {is : List Nat} {vs : List V} {ds : List D} {M : Addr → Prop} {F : Fps} {Γ : Env} {σ : L2.St}, SA R I F Γ σ H → (∀ i ∈ is, i < Γ.length) → NRs R I F H vs ds M →
    ∃ F', SA R I F' (setAll is ds Γ) (setAllV is vs σ) H ∧ ∀ j a, F' j a → F j a ∨ M a
  | [], vs, ds, M, F, Γ, σ, sa, _, h => by
    refine ⟨F, ?_, fun j a x => .inl x⟩
    unfold setAll setAllV
    exact sa
  | i :: is, _, _, _, F, Γ, σ, sa, hi, .nil => ⟨F, sa, fun j a x => .inl x⟩
  | i :: is, _, _, _, F, Γ, σ, sa, hi, .cons (N := N) (M := M) h t hd => by
    obtain ⟨F', sa', hf⟩ := SA.putAll (sa.putN (hi i List.mem_cons_self) h) (fun j hj => by rw [List.length_set]; exact hi j (List.mem_cons_of_mem _ hj)) (t.after (i := i) hd)
    refine ⟨F', sa', fun j a x => ?_⟩
    rcases hf j a x with (y | y) | y
    · exact .inl y.2
    · exact .inr (.inl y.2)
    · exact .inr (.inr y)
end
section
variable {X : Cx} {R : RX} {Wx : WX} {P W Wa Wb Wc B Ba Bb Bc : List Nat} {a b c e o f : Expr} {es : List Expr} {pos apos cpos : Pos}
def kXs (R : RX) (W : List Nat) (F : Fps) (H : Hp) (Q : List V → Hp → Prop) : List D → Env → (Addr → Prop) → Fps → Hp → Prop := fun ds _ I' F' H' => ∀ vs M, NRs R I' F' H' vs ds M → (∀ a, M a → (∃ j ∈ W, F j a) ∨ H a = none) → Q vs H'
def tDXs (R : RX) (Wx : WX) (f : M (List D)) (W : List Nat) : TA := fun σ H Q => ∃ Γ I F, SA R I F Γ σ H ∧ Go R Wx W I F σ H (f Γ) (kXs R W F H Q)
theorem dax_nil : PA X [] (tDXs R Wx mNil []) := PA.imp pa_nil fun σ H Q ⟨Γ, I, F, sa, g⟩ => g.here sa [] _ .nil fun _ h => h.elim
theorem NewR.ofX {F : Fps} {H : Hp} {I' : Addr → Prop} {F' : Fps} {H' : Hp} {v : V} {d : D} (h : XR R [] W F H I' F' H' v d) : ∃ N, NewR R I' F' H' v d N ∧ ∀ a, N a → (∃ j ∈ W, F j a) ∨ H a = none := by
  have jm : ∀ a, J I' F' [] a → I' a := fun a x => x.elim id fun ⟨i, hi, _⟩ => nomatch hi
  by_cases hd : ∃ c, d = .own c
  · obtain ⟨c, rfl⟩ := hd
    obtain ⟨Fo, r, q⟩ := h
    exact ⟨Fo, ⟨r.ext .refl jm fun a o x e => e, fun a x => (q a x).1⟩, fun a x => (q a x).2⟩
  · have r : Rep R (J I' F' []) H' v d := by
      cases d <;> first | exact h | exact (hd ⟨_, rfl⟩).elim
    exact ⟨_, .of (r.reg jm), fun a x => x.elim⟩
theorem dax_cons {fa : M D} {fr : M (List D)} (ha : PE X e (tDX R Wx fa [] Wa)) (hr : PA X es (tDXs R Wx fr Wb)) (hs : starEach (e :: es) X.env = (false, eval e X.env) :: starEach es X.env := by rfl) : PA X (e :: es) (tDXs R Wx (mCons fa fr) (Wa ++ Wb)) :=
  PA.imp (pa_cons ha hr hs) fun σ H Q ⟨Γ, I, F, sa, g⟩ => by
    refine ⟨Γ, I, F, sa, (g.bind (W1 := Wa) (W2 := Wb) (fun i h => List.mem_append_left _ h) (fun i h => List.mem_append_right _ h)).imp fun x Γ1 I1 F1 H1 sa1 s1 g1 v rv => ?_⟩
    obtain ⟨N, rn, hn⟩ := NewR.ofX rv
    refine ⟨Γ1, I1, F1, sa1, (g1.bind (W1 := Wb) (W2 := []) (fun i h => h) (fun i h => nomatch h)).imp fun xs Γ2 I2 F2 H2 sa2 s2 g2 vs M rs hm => ?_⟩
    refine g2.here sa2 (v :: vs) _ (.cons (rn.stp sa1 s2) rs fun a x y => ?_) fun a x => ?_
    · have ne := rn.fresh a x
      rcases hm a y with ⟨j, _, z⟩ | z
      · exact ne.2 j z
      · exact ne.1 z
    · rcases x with x | x
      · rcases hn a x with ⟨j, hj, z⟩ | z
        · exact .inl ⟨j, List.mem_append_left _ hj, z⟩
        · exact .inr z
      · rcases hm a x with ⟨j, hj, z⟩ | z
        · rcases s1.fre j a z with ⟨i, hi, y⟩ | y | y
          · exact .inl ⟨i, List.mem_append_left _ hi, y⟩
          · exact .inl ⟨j, List.mem_append_right _ hj, y⟩
          · exact .inr y
        · exact .inr (s1.dom a z)
def sParX (is : List Nat) (f : M (List D)) : MS := fun Γ => (f Γ).thenS fun ds Γ1 => if ds.length = is.length ∧ (is.all fun i => decide (i < Γ1.length)) = true then .next (setAll is ds Γ1) else .bad
theorem parX_core {is : List Nat} {f : M (List D)} {σ : L2.St} {H : Hp} {E : Ends} (hp : ∀ i ∈ is, i ∉ P) (h : tDS R Wx P (sParX is f) E σ H) : tDXs R Wx f W σ H fun vs H1 => vs.length = is.length ∧ E.nx (setAllV is vs σ) H1 := by
  obtain ⟨Γ, I, F, sa, g⟩ := h
  refine ⟨Γ, I, F, sa, ?_⟩
  unfold sParX at g
  cases e1 : f Γ with
  | bad => rw [e1] at g; exact g
  | exc x Γ1 =>
    rw [e1] at g
    exact fun I' F' H' cls dx sa s r => g I' F' σ H' cls dx sa s.toS r
  | ok ds Γ1 =>
    rw [e1] at g
    intro I1 F1 H1 sa1 s1 vs M rs hm
    have g : GoS R Wx P I F σ H (if ds.length = is.length ∧ (is.all fun i => decide (i < Γ1.length)) = true then .next (setAll is ds Γ1) else .bad) E := g
    split at g
    · rename_i hc
      obtain ⟨F2, sa2, hf⟩ := SA.putAll sa1 (fun i hi => of_decide_eq_true (List.all_eq_true.mp hc.2 i hi)) rs
      have s1' : StpS P I F σ H I1 F1 σ H1 := s1.toS
      have pin : ∀ (is : List Nat) (vs : List V) (σ : L2.St), (∀ i ∈ is, i ∉ P) → ∀ k ∈ P, (setAllV is vs σ)[k]? = σ[k]? := by
        intro is
        induction is with
        | nil => intro vs σ _ k _; unfold setAllV; rfl
        | cons i is ih =>
          intro vs σ hp k hk
          cases vs with
          | nil => unfold setAllV; rfl
          | cons v vs =>
            unfold setAllV
            rw [ih vs _ (fun j hj => hp j (List.mem_cons_of_mem _ hj)) k hk]
            exact List.getElem?_set_ne fun (e : i = k) => hp i List.mem_cons_self (by rw [e]; exact hk)
      refine ⟨by rw [rs.len]; exact hc.1, g I1 F2 _ H1 sa2 ⟨s1'.keep, fun j a x => ?_, s1'.ifr, s1'.imo, s1'.dom, fun k hk => pin is vs σ hp k hk⟩⟩
      rcases hf j a x with y | y
      · exact s1'.fre j a y
      · rcases hm a y with ⟨i, _, z⟩ | z
        · exact .inl ⟨i, z⟩
        · exact .inr z
    · exact g.elim
theorem ds_parX2 {i j : Nat} {x y : Str} {f : M (List D)} {px py pt : Pos} {kt k2 : Nat} {pt2 : Pos} (hc : X.calm = true) (hN : X.N.Nodup) (hi : X.N[i]? = some x) (hj : X.N[j]? = some y) (hij : i ≠ j)
    (hx : X.env.scope.names.lookup x = some .local) (hy : X.env.scope.names.lookup y = some .local) (ha : PA X [a, b] (tDXs R Wx f W))
    (hw : swappedStores [.Tuple [.Name x px, .Name y py] kt pt] (.Tuple [a, b] k2 pt2) X.env = pure (some [x, y])) (hpi : i ∉ P := by decide) (hpj : j ∉ P := by decide)
    (hs : swapsWithSole [.Tuple [.Name x px, .Name y py] kt pt] (.Tuple [a, b] k2 pt2) pos.line X.env = pure false := by rfl) :
    PS X (.Assign [.Tuple [.Name x px, .Name y py] kt pt] (.Tuple [a, b] k2 pt2) pos) (tDS R Wx P (sParX [i, j] f)) := PS.imp (ps_par hc hN hi hj hij hx hy ha hw hs) fun E σ H h => by
  obtain ⟨Γ, I, F, sa, g⟩ := parX_core (W := W) (fun k hk => by
    simp only [List.mem_cons, List.not_mem_nil, or_false] at hk
    rcases hk with rfl | rfl
    · exact hpi
    · exact hpj) h
  refine ⟨Γ, I, F, sa, g.imp fun ds Γ1 I1 F1 H1 sa1 s1 q vs M rs hm => ?_⟩
  obtain ⟨l, n⟩ := q vs M rs hm
  match vs, l with
  | [v, u], _ => exact ⟨v, u, rfl, n⟩
theorem ds_parX3 {i j l : Nat} {x y z : Str} {f : M (List D)} {px py pz pt : Pos} {kt k2 : Nat} {pt2 : Pos} (hc : X.calm = true) (hN : X.N.Nodup) (hi : X.N[i]? = some x) (hj : X.N[j]? = some y) (hl : X.N[l]? = some z) (hij : i ≠ j) (hil : i ≠ l) (hjl : j ≠ l)
    (hx : X.env.scope.names.lookup x = some .local) (hy : X.env.scope.names.lookup y = some .local) (hz : X.env.scope.names.lookup z = some .local) (ha : PA X [a, b, c] (tDXs R Wx f W))
    (hw : swappedStores [.Tuple [.Name x px, .Name y py, .Name z pz] kt pt] (.Tuple [a, b, c] k2 pt2) X.env = pure (some [x, y, z])) (hpi : i ∉ P := by decide) (hpj : j ∉ P := by decide) (hpl : l ∉ P := by decide)
    (hs : swapsWithSole [.Tuple [.Name x px, .Name y py, .Name z pz] kt pt] (.Tuple [a, b, c] k2 pt2) pos.line X.env = pure false := by rfl) :
    PS X (.Assign [.Tuple [.Name x px, .Name y py, .Name z pz] kt pt] (.Tuple [a, b, c] k2 pt2) pos) (tDS R Wx P (sParX [i, j, l] f)) := PS.imp (ps_par3 hc hN hi hj hl hij hil hjl hx hy hz ha hw hs) fun E σ H h => by
  obtain ⟨Γ, I, F, sa, g⟩ := parX_core (W := W) (fun k hk => by
    simp only [List.mem_cons, List.not_mem_nil, or_false] at hk
    rcases hk with rfl | rfl | rfl
    · exact hpi
    · exact hpj
    · exact hpl) h
  refine ⟨Γ, I, F, sa, g.imp fun ds Γ1 I1 F1 H1 sa1 s1 q vs M rs hm => ?_⟩
  obtain ⟨l, n⟩ := q vs M rs hm
  match vs, l with
  | [v, u, w], _ => exact ⟨v, u, w, rfl, n⟩
end
end Dl
/-! DL27: comprehensions over tables. -/
namespace Dl
open PySem PySem.Spec PyProof.Rows L2
theorem PE.or {X : Cx} {e : Expr} {t t' : TE} (h : PE X e t) (h' : PE X e t') : PE X e (fun σ H Q => t σ H Q ∨ t' σ H Q) := ⟨fun pins s σ H Q I x => x.elim (h.run pins s σ H Q I) (h'.run pins s σ H Q I)⟩
/-! ### a table locked, unlocked -/
structure LEq (d : Addr) (kvs : List (Key × V)) (H H' : Hp) : Prop where
  off : ∀ a, a ≠ d → H' a = H a
  l : Rd H d (.dK kvs)
  r : Rd H' d (.dK kvs)
theorem rd_not {H : Hp} {a : Addr} {u : HO} {o : HO} (h : Rd H a u) (e : H a = some o) : o = u ∨ ∃ ob, o = .frz ob u := by
  rcases h with h | ⟨ob, h⟩
  · rw [h] at e; exact .inl (Option.some.inj e).symm
  · rw [h] at e; exact .inr ⟨ob, (Option.some.inj e).symm⟩
section
variable {R : RX} {I : Addr → Prop} {H H' : Hp} {d : Addr} {kvs : List (Key × V)}
theorem LEq.at {a : Addr} {o : HO} (q : LEq d kvs H H') (e : H a = some o) (n1 : o ≠ .dK kvs) (n2 : ∀ ob, o ≠ .frz ob (.dK kvs)) : H' a = some o := by
  by_cases h : a = d
  · subst h
    rcases rd_not q.l e with z | ⟨ob, z⟩
    · exact (n1 z).elim
    · exact (n2 ob z).elim
  · rw [q.off a h]; exact e
mutual
theorem Rep.leq (q : LEq d kvs H H') : ∀ {v : V} {x : D}, Rep R I H v x → Rep R I H' v x
  | _, _, .non => .non
  | _, _, .bl b => .bl b
  | _, _, .int i => .int i
  | _, _, .str x => .str x
  | _, _, .tup (a := a) (xs := xs) h r => .tup (by
      rcases h with (h | ⟨o, h⟩) | h
      · exact .inl (.inl (q.at h (fun e => nomatch e) fun ob e => nomatch e))
      · exact .inl (.inr ⟨o, q.at h (fun e => nomatch e) fun ob e => nomatch e⟩)
      · exact .inr h) (Reps.leq q r)
  | _, _, .lst h1 h2 r => .lst h1 (q.at h2 (fun e => nomatch e) fun ob e => nomatch e) (Reps.leq q r)
  | _, _, .scr h => .scr (by
      rcases h with ⟨o, h⟩ | h
      · exact .inl ⟨o, q.at h (fun e => nomatch e) fun ob e => nomatch e⟩
      · exact .inr h)
  | _, _, .dct (a := a) (kvs := ks) h1 h2 r => .dct h1 (by
      by_cases e : a = d
      · subst e
        have z : ks = kvs := by
          rcases h2 with h2 | ⟨o, h2⟩ <;> rcases rd_not q.l h2 with y | ⟨ob, y⟩ <;> cases y <;> rfl
        subst z
        exact q.r
      · unfold Rd
        rw [q.off a e]
        exact h2) (RepK.leq q r)
  | _, _, .ins h1 h2 r => .ins h1 (q.at h2 (fun e => nomatch e) fun ob e => nomatch e) (RepF.leq q r)
theorem Reps.leq (q : LEq d kvs H H') : ∀ {v : List V} {x : List D}, Reps R I H v x → Reps R I H' v x
  | _, _, .nil => .nil
  | _, _, .cons h r => .cons (Rep.leq q h) (Reps.leq q r)
theorem RepK.leq (q : LEq d kvs H H') : ∀ {v : List (Key × V)} {x : List (Key × D)}, RepK R I H v x → RepK R I H' v x
  | _, _, .nil => .nil
  | _, _, .cons h r => .cons (Rep.leq q h) (RepK.leq q r)
theorem RepF.leq (q : LEq d kvs H H') : ∀ {v : List (Str × V)} {x : List (Str × D)}, RepF R I H v x → RepF R I H' v x
  | _, _, .nil => .nil
  | _, _, .cons h r => .cons (Rep.leq q h) (RepF.leq q r)
end
theorem ORep.leq {v : V} {c : D} {Fo : Addr → Prop} (q : LEq d kvs H H') (hd : ¬ Fo d) (h : ORep R I H v c Fo) : ORep R I H' v c Fo := by
  unfold ORep at h ⊢
  split at h
  · obtain ⟨p, xs, h1, h2, h3, h4⟩ := h
    exact ⟨p, xs, h1, by rw [q.off p fun e => hd (by rw [← e]; exact (h4 p).mpr rfl)]; exact h2, h3.leq q, h4⟩
  · obtain ⟨p, xs, h1, h2, h3, h4⟩ := h
    exact ⟨p, xs, h1, by rw [q.off p fun e => hd (by rw [← e]; exact (h4 p).mpr rfl)]; exact h2, h3.leq q, h4⟩
  · exact h
theorem SA.leq {F : Fps} {Γ : Env} {σ : L2.St} (sa : SA R I F Γ σ H) (q : LEq d kvs H H') (hd : I d) : SA R I F Γ σ H' := by
  refine ⟨sa.len, fun i => ?_, sa.dis, sa.apt, fun a x => ?_, fun i a x => ?_⟩
  · have h := sa.ok i
    have nd : ¬ F i d := fun x => sa.apt i d x hd
    unfold SlotOk at h ⊢
    split at h
    · obtain ⟨v, e, h⟩ := h
      exact ⟨v, e, h.leq q nd⟩
    · obtain ⟨⟨v, e, h⟩, n⟩ := h
      exact ⟨⟨v, e, h.leq q⟩, n⟩
    · exact h
  · by_cases e : a = d
    · subst e; exact q.r.ne
    · rw [q.off a e]; exact sa.itr a x
  · have e : a ≠ d := fun e => sa.apt i a x (by rw [e]; exact hd)
    rw [q.off a e]
    exact sa.trk i a x
end
section
variable {R : RX} {Wx : WX} {I I' : Addr → Prop} {F F' : Fps} {Γ Γ' : Env} {σ : L2.St} {H H' : Hp} {d : Addr} {kvs : List (Key × V)} {W B : List Nat} {od : Obj}
theorem upd_off {p : Addr} {o : HO} {a : Addr} (h : a ≠ p) : upd H p o a = H a := upd_ne h
theorem LEq.lock (h : H d = some (.dK kvs)) : LEq d kvs H (upd H d (.frz od (.dK kvs))) := ⟨fun a e => upd_ne e, .inl h, .inr ⟨od, upd_same⟩⟩
theorem LEq.unlock (h : H d = some (.frz od (.dK kvs))) : LEq d kvs H (upd H d (.dK kvs)) := ⟨fun a e => upd_ne e, .inr ⟨od, h⟩, .inl upd_same⟩
theorem Stp.unlock (s : Stp W I F (upd H d (.frz od (.dK kvs))) I' F' H') (h : H d = some (.dK kvs)) : Stp W I F H I' F' (upd H' d (.dK kvs)) := by
  refine ⟨fun a o e n => ?_, s.same, fun i a x => ?_, fun a x => ?_, s.imo, fun a x => ?_⟩
  · by_cases z : a = d
    · subst z; rw [h] at e; cases e; exact upd_same
    · rw [upd_ne z]; exact s.keep a o (by rw [upd_ne z]; exact e) n
  · rcases s.fre i a x with y | y | y
    · exact .inl y
    · exact .inr (.inl y)
    · by_cases z : a = d
      · subst z; rw [upd_same] at y; cases y
      · rw [upd_ne z] at y; exact .inr (.inr y)
  · rcases s.ifr a x with y | y | y
    · exact .inl y
    · exact .inr (.inl y)
    · by_cases z : a = d
      · subst z; rw [upd_same] at y; cases y
      · rw [upd_ne z] at y; exact .inr (.inr y)
  · by_cases z : a = d
    · subst z; rw [upd_same] at x; cases x
    · rw [upd_ne z] at x
      have y := s.dom a x
      rw [upd_ne z] at y
      exact y
theorem XR.unlock {v : V} {x : D} (xr : XR R B W F (upd H d (.frz od (.dK kvs))) I' F' H' v x) (sa : SA R I' F' Γ' σ H') (hI : I' d) (hd : H' d = some (.frz od (.dK kvs))) : XR R B W F H I' F' (upd H' d (.dK kvs)) v x := by
  have q : LEq d kvs H' (upd H' d (.dK kvs)) := .unlock hd
  by_cases h : ∃ c, x = .own c
  · obtain ⟨c, rfl⟩ := h
    obtain ⟨Fo, r, n⟩ := xr
    have nd : ¬ Fo d := fun z => (n d z).1.1 hI
    refine ⟨Fo, r.leq q nd, fun a z => ?_⟩
    have e : a ≠ d := fun e => nd (by rw [← e]; exact z)
    obtain ⟨⟨n1, n2, o, n3, n4⟩, n5⟩ := n a z
    exact ⟨⟨n1, n2, o, by rw [upd_ne e]; exact n3, n4⟩, n5.imp id fun y => by rw [upd_ne e] at y; exact y⟩
  · cases x <;> first | exact (show Rep R _ _ _ _ from xr).leq q | exact (h ⟨_, rfl⟩).elim
/-- what a reading says, with the table locked meanwhile -/
theorem Go.locked {o : Out D} {Q : VK} (hW : ∀ cls dx σ H H', Wx cls dx σ H → Wx cls dx σ H') (g : Go R Wx W I F σ H o (kX R B W F H Q)) (sa : SA R I F Γ σ H) (hI : I d) (hd : H d = some (.dK kvs)) :
    Go R Wx W I F σ (upd H d (.frz od (.dK kvs))) o (kX R B W F (upd H d (.frz od (.dK kvs))) fun v H' => H' d = some (.frz od (.dK kvs)) ∧ Q v (upd H' d (.dK kvs))) := by
  have at' : ∀ {I' : Addr → Prop} {F' : Fps} {H' : Hp}, Stp W I F (upd H d (.frz od (.dK kvs))) I' F' H' → H' d = some (.frz od (.dK kvs)) := fun s => s.keep d _ upd_same fun i _ x => sa.apt i d x hI
  cases o with
  | bad => exact g
  | exc x Γ1 =>
    intro I' F' H' cls dx sa' s r
    have h := at' s
    refine hW _ _ _ _ _ (g I' F' _ cls dx (sa'.leq (.unlock h) (s.imo d hI)) (s.unlock hd) ?_)
    obtain ⟨r1, p, fs, r2, r3, r4⟩ := r
    have ne : p ≠ d := fun e => by rw [e, h] at r3; cases r3
    exact ⟨r1, p, fs, r2, by rw [upd_ne ne]; exact r3, r4.leq (.unlock h)⟩
  | ok x Γ1 =>
    intro I' F' H' sa' s v xr
    have h := at' s
    exact ⟨h, g I' F' _ (sa'.leq (.unlock h) (s.imo d hI)) (s.unlock hd) v (xr.unlock sa' (s.imo d hI) h)⟩
end
/-! ### the walks -/
def keysL (l : List (Key × D)) : List D := l.map fun p => keyV p.1
def itemsL (l : List (Key × D)) : List D := l.map fun p => .tup [keyV p.1, p.2]
def valsL (l : List (Key × D)) : List D := l.map (·.2)
def ofDct (k : List (Key × D) → List D) : D → Option (List D)
  | .dct l => some (k l)
  | _ => none
def LkOk (it : Addr → Obj → List (Key × V) → It) (dl : List (Key × D) → List D) : Prop := ∀ (R : RX) (I0 : Addr → Prop) (H0 : Hp) (d : Addr) (o : Obj) (kvs : List (Key × V)) (kds : List (Key × D)), H0 d = some (.frz o (.dK kvs)) → RepK R I0 H0 kvs kds → ItD R I0 H0 (dl kds) (it d o kvs)
theorem RepK.get' {R : RX} {I : Addr → Prop} {H : Hp} : ∀ {kvs : List (Key × V)} {l : List (Key × D)} {i : Nat} {k : Key} {v : V}, RepK R I H kvs l → kvs[i]? = some (k, v) → ∃ x, l[i]? = some (k, x) ∧ Rep R I H v x
  | _, _, _, _, _, .nil, e => by simp at e
  | _, _, 0, _, _, .cons h _, e => by simp at e; obtain ⟨rfl, rfl⟩ := e; exact ⟨_, rfl, h⟩
  | _, _, i + 1, _, _, .cons _ t, e => by
    obtain ⟨x, h1, h2⟩ := RepK.get' (i := i) t (by simpa using e)
    exact ⟨x, by simpa using h1, h2⟩
theorem rep_key {R : RX} {I : Addr → Prop} {H : Hp} (k : Key) : Rep R I H (kV k) (keyV k) := by
  cases k with
  | inl i => exact .int i
  | inr x => exact .str x
theorem lk_keys : LkOk Itk keysL := fun R I0 H0 d o kvs kds h r => by
  refine ⟨fun H => H d = some (.frz o (.dK kvs)), _, by unfold keysL; rw [List.length_map, ← r.len]; exact walk_keys, fun H1 x => x.f _ _ _ h, fun I1 H1 x hi i v H2 hlt w => ?_⟩
  obtain ⟨e, k, y, e1, e2⟩ := w
  obtain ⟨z, e3, _⟩ := r.get' e1
  subst e e2
  exact ⟨.refl _, keyV k, by unfold keysL; rw [List.getElem?_map, e3]; rfl, rep_key k⟩
theorem lk_vals : LkOk Itd valsL := fun R I0 H0 d o kvs kds h r => by
  refine ⟨fun H => H d = some (.frz o (.dK kvs)), _, by unfold valsL; rw [List.length_map, ← r.len]; exact walk_values, fun H1 x => x.f _ _ _ h, fun I1 H1 x hi i v H2 hlt w => ?_⟩
  obtain ⟨e, k, e1⟩ := w
  obtain ⟨z, e3, q⟩ := r.get' e1
  subst e
  exact ⟨.refl _, z, by unfold valsL; rw [List.getElem?_map, e3]; rfl, q.ext x hi⟩
theorem lk_items : LkOk Iti itemsL := fun R I0 H0 d o kvs kds h r => by
  refine ⟨fun H => H d = some (.frz o (.dK kvs)), _, by unfold itemsL; rw [List.length_map, ← r.len]; exact walk_items, fun H1 x => x.f _ _ _ h, fun I1 H1 x hi i v H2 hlt y => ?_⟩
  obtain ⟨T, x', y', e1, e2, e3, e4, e5⟩ := y
  have e4 : (kvs[i]?).map (fun kv => kV kv.1) = some x' := e4
  have e5 : (kvs[i]?).map Prod.snd = some y' := e5
  cases e : kvs[i]? with
  | none => rw [e] at e4; cases e4
  | some kv =>
    obtain ⟨k, u⟩ := kv
    rw [e] at e4 e5
    cases e4
    cases e5
    obtain ⟨z, e6, q⟩ := r.get' e
    obtain ⟨sm, q2⟩ := pair_new e1 e2 e3 (rep_key k) (q.ext x hi)
    exact ⟨sm, _, by unfold itemsL; rw [List.getElem?_map, e6]; rfl, q2⟩
section
variable {X : Cx} {R : RX} {Wx : WX} {P W Wa Wb We Wi Wt B Ba Bb Be Bi T : List Nat} {a b c e tg iter elt : Expr} {es ifs : List Expr} {pos : Pos} {I I' : Addr → Prop} {F F' : Fps} {Γ Γ' : Env} {σ : L2.St} {H H' : Hp}
/-- a walk over the table of slot i, which is locked -/
def iLk (it : Addr → Obj → List (Key × V) → It) (i : Nat) : TI := fun σ H K => ∃ d o kvs, σ[i]? = some (some (.ref d)) ∧ H d = some (.frz o (.dK kvs)) ∧ K (it d o kvs) H
theorem iLk_of {it : Addr → Obj → List (Key × V) → It} {dl : List (Key × D) → List D} (ok : LkOk it dl) {i : Nat} {K : It → Hp → Prop} (h : tDI R Wx (mIter (ofDct dl) (mVal i)) [] W σ H K) {d : Addr} {o : Obj} {kvs : List (Key × V)} (e : σ[i]? = some (some (.ref d))) (hd : H d = some (.frz o (.dK kvs))) :
    iLk it i σ H K := by
  obtain ⟨Γ, I, F, sa, g⟩ := h
  unfold mIter mVal at g
  cases q : getV Γ i with
  | none => rw [q] at g; exact g.elim
  | some x =>
    rw [q] at g
    cases x <;> first | exact g.elim | skip
    rename_i l
    obtain ⟨v, e1, r⟩ := sa.val q
    rw [e] at e1
    cases e1
    cases r with
    | @dct _ ks _ h1 h2 t =>
      have z : ks = kvs := by rcases h2 with h2 | ⟨ob, h2⟩ <;> rw [hd] at h2 <;> cases h2; rfl
      subst z
      exact ⟨d, o, ks, e, hd, g.here sa _ (ok R (J I F []) H d o ks l hd (t.reg fun _ => J.of))⟩
theorem dx_lcLk {it : Addr → Obj → List (Key × V) → It} {dl : List (Key × D) → List D} {raw : TI} {i : Nat} (hraw : ∀ σ H K, iLk it i σ H K → raw σ H K) (okL : LkOk it dl) (hWx : ∀ cls dx σ H H', Wx cls dx σ H → Wx cls dx σ H')
    {scope : Scope} {own : List (Str × Nat)} {vs : List Nat} {g : AsT} {ft : M Bool} {fe : M D} (hc : X.calm = true) (hN : X.N.Nodup) (hi : PI X tg iter raw) (ok : BlkOk X.N X.env.scope scope own)
    (hg : ∀ (s : Shared) (H : Hp) (C : Addr) (cl : List (Str × Addr)) (fp : List Addr), PG (X.blk s H scope (compEnvC scope cl C X.env) fp) tg (tDG R T g)) (ht : ∀ (s : Shared) (H : Hp) (C : Addr) (cl : List (Str × Addr)) (fp : List Addr), PTs (X.blk s H scope (compEnvC scope cl C X.env) fp) ifs (tDT R Wf ft Wt))
    (he : ∀ (s : Shared) (H : Hp) (C : Addr) (cl : List (Str × Addr)) (fp : List Addr), PE (X.blk s H scope (compEnvC scope cl C X.env) fp) elt (tD R Wf fe Be We)) (hv : own.map (·.2) = vs := by rfl)
    (hT : ∀ i ∈ T, i ∈ vs := by decide) (hW : ∀ i ∈ Wt ++ We, i ∉ vs := by decide) (hB : ∀ i ∈ Be, i ∉ Wt ++ We := by decide) (hBv : ∀ i ∈ Be, i ∉ vs := by decide) (hs : ∀ x, foldedSetIterable iter X.env x = pure x := by intro _; rfl) :
    PE X (.ListComp elt [⟨tg, iter, ifs, 0⟩] scope pos) (tDX R Wx (mLcX [] (mIter (ofDct dl) (mVal i)) g vs ft fe) Be ([] ++ ([] ++ (Wt ++ We)))) := by
  subst hv
  have base := pe_lc (pos := pos) hc hN hi ok hg ht he hs
  refine PE.imp (PE.or base (pe_lock base)) fun σ H Q ⟨Γ, I, F, sa, q⟩ => ?_
  cases e : getV Γ i with
  | none =>
    exfalso
    have : (mLcX [] (mIter (ofDct dl) (mVal i)) g (own.map (·.2)) ft fe Γ) = .bad := by
      unfold mLcX mLcC mIter mVal
      rw [e]
      rfl
    rw [this] at q
    exact q
  | some x =>
    by_cases hx : isDct x = true
    · cases x <;> first | (cases hx; done) | skip
      rename_i l
      obtain ⟨v, e1, r⟩ := sa.val e
      cases r with
      | @dct d kvs _ h1 h2 t =>
        rcases h2 with h2 | ⟨o, h2⟩
        · refine .inr ⟨d, .dK kvs, h2, True.intro, fun od => ?_⟩
          have sl := sa.leq (.lock (od := od) h2) h1
          have gl := q.locked (od := od) hWx sa h1 h2
          exact hraw _ _ _ (iLk_of okL (lc_own (Bi := []) (Wi := []) hT hW hB hBv ⟨Γ, I, F, sl, gl⟩) e1 upd_same)
        · exact .inl (hraw _ _ _ (iLk_of okL (lc_own (Bi := []) (Wi := []) hT hW hB hBv ⟨Γ, I, F, sa, q⟩) e1 h2))
    · exfalso
      have : (mLcX [] (mIter (ofDct dl) (mVal i)) g (own.map (·.2)) ft fe Γ) = .bad := by
        unfold mLcX mLcC mIter mVal
        rw [e]
        cases x <;> first | rfl | exact (hx rfl).elim
      rw [this] at q
      exact q
theorem lkK {i : Nat} (σ : L2.St) (H : Hp) (K : It → Hp → Prop) (h : iLk Itk i σ H K) : iKeys (tVar i) σ H K := by
  obtain ⟨d, o, kvs, e1, e2, k⟩ := h
  exact ⟨_, e1, d, o, rfl, .inl ⟨kvs, e2, k⟩⟩
theorem lkI {i : Nat} (σ : L2.St) (H : Hp) (K : It → Hp → Prop) (h : iLk Iti i σ H K) : iItems (tVar i) σ H K := by
  obtain ⟨d, o, kvs, e1, e2, k⟩ := h
  exact ⟨_, e1, d, o, kvs, rfl, e2, k⟩
theorem lkV {i : Nat} (σ : L2.St) (H : Hp) (K : It → Hp → Prop) (h : iLk Itd i σ H K) : iVals (tVar i) σ H K := by
  obtain ⟨d, o, kvs, e1, e2, k⟩ := h
  exact ⟨_, e1, d, o, kvs, rfl, e2, k⟩
end
end Dl
/-! DK23: sum(lists, a list). -/
namespace Dl
open PySem PySem.Spec PyProof.Rows L2
def catA (a0 : Array Value) (yss : Nat → Array Value) : Nat → Array Value
  | 0 => a0
  | i + 1 => catA a0 yss i ++ yss i
theorem catA_le (a0 : Array Value) (yss : Nat → Array Value) : ∀ {i n : Nat}, i ≤ n → (catA a0 yss i).size ≤ (catA a0 yss n).size
  | i, 0, h => by rw [Nat.le_zero.mp h]; exact Nat.le_refl _
  | i, n + 1, h => by
    rcases Nat.lt_or_ge i (n + 1) with z | z
    · have := catA_le a0 yss (i := i) (n := n) (by omega)
      show _ ≤ (catA a0 yss n ++ yss n).size
      rw [Array.size_append]
      omega
    · rw [show i = n + 1 from by omega]; exact Nat.le_refl _
section
variable {prog : Program} {w : World} {A : Around} {R : Result → Shared → Prop} {J : Addr} {fp wr : List Addr} {G : Array GenState → Array GenState → Prop} {n : Nat} {P : Nat → Value → Prop} {St : Nat → Shared → Prop}
theorem loopV (W : WalksS prog w A.in1 J fp wr G n P St) (S : Addr) (hS : S ∉ fp) (a0 : Array Value) (yss : Nat → Array Value) (hz : (catA a0 yss n).size ≤ sizeLine) (hfp : ∀ i s, St i s → ∀ b ∈ fp, b < s.heap.objs.size) :
    ∀ (k i : Nat) (s : Shared) (T : Addr) (c m : Nat), n - i = k → i ≤ n → St i s → s.heap.get? S = some { cls := .type "list", dict := none, data := .seq #[.ref T] c, slots := #[] } →
    s.heap.get? T = some { cls := .type "list", data := .seq (catA a0 yss i) m } → T ≠ S → T ∉ wr → (∀ j v, P j v → ∃ b m, v = .ref b ∧ s.heap.get? b = some { cls := .type "list", data := .seq (yss j) m } ∧ b ≠ S ∧ b ∉ wr) →
    (∀ s' T' m', Moved (S :: wr) G s s' → s'.heap.get? T' = some { cls := .type "list", data := .seq (catA a0 yss n) m' } → (i = n → T' = T) → (i < n → S < T') → R (.ok (.ret (.ref T'))) s') →
    codeAny (model prog w) A (.builtin "sum.loop" ⟨[.ref J, .ref S, rawInt 2, rawInt 0], []⟩) R s := by
  have hw : S ∉ wr := fun h => hS (W.sub _ h)
  have sub : ∀ b ∈ wr, b ∈ S :: wr := fun b hb => List.mem_cons_of_mem _ hb
  intro k
  induction k with
  | zero =>
    intro i s T c m hk hi st hSo hT nS nW hP hR
    obtain rfl : i = n := by omega
    refine codeAny_builtin F.entry_sum_loop ?_
    rw [Around.under_plainId F.plain_sum_loop _]
    show wpAny _ A.in1 (seqItems? (.ref S) >>= _) _ _ s
    refine wpAny_bind (wpAny_seqItems hSo rfl ?_)
    show wpAny _ A.in1 (tryCatch (pyNext (.ref J)) _ >>= _) _ _ s
    refine wpAny_bind (wpAny_tryCatch (W.done s _ _ st fun u hm => ?_))
    exact wpAny_pure (hR u T m (hm.mono sub) (hm.heap T _ nW hT) (fun _ => rfl) fun h => absurd h (Nat.lt_irrefl _))
  | succ k ih =>
    intro i s T c m hk hi st hSo hT nS nW hP hR
    have lt : i < n := by omega
    refine codeAny_builtin F.entry_sum_loop ?_
    rw [Around.under_plainId F.plain_sum_loop _]
    show wpAny _ A.in1 (seqItems? (.ref S) >>= _) _ _ s
    refine wpAny_bind (wpAny_seqItems hSo rfl ?_)
    show wpAny _ A.in1 (tryCatch (pyNext (.ref J)) _ >>= _) _ _ s
    refine wpAny_bind (wpAny_tryCatch (W.item i s _ _ lt st fun v u hv st' hm => ?_))
    obtain ⟨b, mb, rfl, hb, bS, bW⟩ := hP i v hv
    have hSo' := hm.heap S _ hw hSo
    have hT' := hm.heap T _ nW hT
    have hb' := hm.heap b _ bW hb
    have room : (catA a0 yss i).size + (yss i).size ≤ sizeLine := by
      have := catA_le a0 yss (i := i + 1) (n := n) (by omega)
      have e : (catA a0 yss (i + 1)).size = (catA a0 yss i).size + (yss i).size := Array.size_append
      omega
    show wpAny _ A.in1 ((holding [Value.ref b] (binaryOp .Add (.ref T) (.ref b))).attempt >>= _) _ _ _
    refine wpAny_bind (wpAny_attempt (wpAny_holding (PySem.P.add_list hT' hb' ?_ room)))
    have fr : ∀ x o, u.heap.get? x = some o → (u.heap.push { cls := .type "list", data := .seq (catA a0 yss i ++ yss i) }).get? x = some o := fun x o e => Heap.get?_push_of_some _ e
    have hSo2 := fr S _ hSo'
    show wpAny _ A.in1 (updateSeq S (fun _ => #[.ref u.heap.objs.size]) >>= _) _ _ _
    refine wpAny_bind (wpAny_updateSeq hSo2 rfl ?_)
    have hSo3 := Heap.get?_update_self (Obj.mapSeq fun _ => #[Value.ref u.heap.objs.size]) hSo2 rfl
    refine wpAny_bind (wpAny_letGo ?_)
    have keep : ∀ x o, x ≠ S → u.heap.get? x = some o → (((u.heap.push { cls := .type "list", data := .seq (catA a0 yss i ++ yss i) }).update S (Obj.mapSeq fun _ => #[Value.ref u.heap.objs.size])).update S (Obj.mapSeq fun _ => #[Value.ref u.heap.objs.size])).get? x = some o :=
      fun x o hx e => (Heap.get?_update_other _ _ (Ne.symm hx)).trans ((Heap.get?_update_other _ _ (Ne.symm hx)).trans (fr x o e))
    have ltS : S < u.heap.objs.size := Heap.lt_size hSo'
    have neN : u.heap.objs.size ≠ S := Nat.ne_of_gt ltS
    have hN : (((u.heap.push { cls := .type "list", data := .seq (catA a0 yss i ++ yss i) }).update S (Obj.mapSeq fun _ => #[Value.ref u.heap.objs.size])).update S (Obj.mapSeq fun _ => #[Value.ref u.heap.objs.size])).get? u.heap.objs.size = some { cls := .type "list", data := .seq (catA a0 yss (i + 1)) 0 } :=
      (Heap.get?_update_other _ _ (Ne.symm neN)).trans ((Heap.get?_update_other _ _ (Ne.symm neN)).trans (Heap.get?_push_size _ rfl))
    have hfu : ∀ x ∈ fp, x < u.heap.objs.size := hfp _ u st'
    refine wpAny_bind (wpAny_updateSeq hSo3 rfl (wpAny_pure ⟨plainId_quiet F.plain_sum_loop _, ih (i + 1) _ u.heap.objs.size _ 0 (by omega) lt (W.frame _ u _ _ st' (by first | exact Nat.le_refl _ | exact Nat.le_succ _ | omega) fun x hx o e => ?_) (Heap.get?_update_self (Obj.mapSeq fun _ => #[Value.ref u.heap.objs.size]) hSo3 rfl) hN neN
      (fun h => absurd (hfu _ (W.sub _ h)) (Nat.lt_irrefl _)) (fun j v hv => ?_) fun s' T' m' hm2 h1 h2 h3 => ?_⟩))
    · exact keep x o (fun z => hS (by rw [← z]; exact hx)) e
    · obtain ⟨b2, m2, rfl, q1, q2, q3⟩ := hP j v hv
      exact ⟨b2, m2, rfl, keep b2 _ q2 (hm.heap b2 _ q3 q1), q2, q3⟩
    · refine hR s' T' m' (Moved.trans W.gtrans ((hm.mono sub).then_heap (by first | exact Nat.le_refl _ | exact Nat.le_succ _ | omega) fun x o hx e => ?_) hm2) h1 (fun e => absurd lt (by omega)) fun _ => ?_
      · exact keep x o (fun z => hx (by rw [z]; exact List.mem_cons_self)) e
      · by_cases e : i + 1 = n
        · rw [h2 e]; exact ltS
        · exact h3 (by omega)
end
theorem args_sum2 (a b : Value) : argsOk "sum" ⟨[a, b], []⟩ := by unfold argsOk; kernel_rfl
section
variable {prog : Program} {w : World} {A : Around} {E : Value → Shared → Prop} {s : Shared}
theorem sumLists {l y : Addr} {its : Array Value} {a0 : Array Value} {my : Nat} (yss : Nat → Array Value) {Q : Value → Shared → Prop} (hh : A.handled = none) (hl : s.heap.IsList l its) (hy : s.heap.get? y = some { cls := .type "list", data := .seq a0 my })
    (hi : ∀ (j : Nat) (v : Value), its[j]? = some v → ∃ b m, v = .ref b ∧ s.heap.get? b = some { cls := .type "list", data := .seq (yss j) m }) (hz : (catA a0 yss its.size).size ≤ sizeLine)
    (h : ∀ s' T m, (∀ b o, s.heap.get? b = some o → s'.heap.get? b = some o) → s'.gens = s.gens → s'.os = s.os → s'.heap.get? T = some { cls := .type "list", data := .seq (catA a0 yss its.size) m } → (its.size = 0 → T = y) → (0 < its.size → s.heap.objs.size ≤ T) → Q (.ref T) s') :
    wpAny (model prog w) A (call (.builtin "sum") [.ref l, .ref y]) Q E s := by
  refine call_function_tree F.kind_sum F.plain_sum F.entry_sum (args_sum2 _ _) ?_
  unfold Builtin.«sum»
  simp only [List.length_cons, List.length_nil]
  rw [if_neg (by decide)]
  refine wpAny_bind (wpAny_of_eq (show Builtin.Builtins.bindParams "sum" ["start"] 0 ⟨[.ref y], []⟩ = pure [some (.ref y)] from rfl) ?_)
  refine wpAny_bind (wpAny_pyIter_list hl ?_)
  have ltl : l < s.heap.objs.size := let ⟨_, e, _⟩ := hl; Heap.lt_size e
  have ty : Shared.TypeIs { s with heap := s.heap.push { cls := .type "list_iterator", data := .fields #[.ref l, .int 0 0] } } (.ref y) "list" := ⟨_, Heap.get?_push_of_some _ hy, rfl⟩
  refine wpAny_bind (wpAny_pure ?_)
  simp only [List.forIn_cons, List.forIn_nil]
  refine wpAny_bind (wpAny_bind (wpAny_bind (wpAny_isInstance (T := "list") (b := false) ty F.sub_list_str ?_)))
  simp only [Bool.false_eq_true, if_false]
  refine wpAny_pure (wpAny_bind (wpAny_bind (wpAny_isInstance (T := "list") (b := false) ty F.sub_list_bytes ?_)))
  simp only [Bool.false_eq_true, if_false]
  refine wpAny_pure (wpAny_bind (wpAny_bind (wpAny_isInstance (T := "list") (b := false) ty F.sub_list_bytearray ?_)))
  simp only [Bool.false_eq_true, if_false]
  refine wpAny_pure (wpAny_pure ?_)
  refine wpAny_bind (wpAny_newObj_type ?_)
  have z1 : (s.heap.push { cls := .type "list_iterator", data := .fields #[.ref l, .int 0 0] }).objs.size = s.heap.objs.size + 1 := Heap.size_push _ _
  have hn : l ≠ s.heap.objs.size := Nat.ne_of_lt ltl
  have hf : (s.heap.push { cls := .type "list_iterator", data := .fields #[.ref l, .int 0 0] }).objs.size ∉ [s.heap.objs.size, l] := by
    rw [z1]
    simp only [List.mem_cons, List.not_mem_nil, or_false, not_or]
    exact ⟨Nat.succ_ne_self _, Nat.ne_of_gt (Nat.lt_succ_of_lt ltl)⟩
  have lty : y < s.heap.objs.size := Heap.lt_size hy
  refine wpAny_pure ⟨plainId_quiet F.plain_sum_loop _, loopV ((Walks.list (by simp [hh]) s.heap.objs.size l hn its).toS) _ hf a0 yss hz (fun i u st b hb => ?_) its.size 0 _ y 0 my rfl (Nat.zero_le _)
    ⟨⟨_, Heap.get?_push_of_some _ (Heap.get?_push_size _ rfl), rfl, rfl⟩, (hl.push _).push _⟩ (Heap.get?_push_size _ rfl) (Heap.get?_push_of_some _ (Heap.get?_push_of_some _ hy)) (by rw [z1]; exact Nat.ne_of_lt (Nat.lt_succ_of_lt lty)) (fun h => ?_) (fun j v hv => ?_) fun s' T m hm e1 e2 e3 => ?_⟩
  · rcases List.mem_cons.mp hb with rfl | hb
    · obtain ⟨_, e, _⟩ := st.1
      exact Heap.lt_size e
    · rw [List.mem_singleton.mp hb]
      obtain ⟨_, e, _⟩ := st.2
      exact Heap.lt_size e
  · exact Nat.ne_of_lt lty (List.mem_singleton.mp h)
  · obtain ⟨b, m, rfl, hb⟩ := hi j v hv
    have ltb : b < s.heap.objs.size := Heap.lt_size hb
    exact ⟨b, m, rfl, Heap.get?_push_of_some _ (Heap.get?_push_of_some _ hb), by rw [z1]; exact Nat.ne_of_lt (Nat.lt_succ_of_lt ltb), fun h => Nat.ne_of_lt ltb (List.mem_singleton.mp h)⟩
  · refine h s' T m (fun b o e => ?_) hm.gens hm.os e1 (fun z => e2 z.symm) fun z => ?_
    · have ltb : b < s.heap.objs.size := Heap.lt_size e
      refine hm.heap b o (fun z => ?_) (Heap.get?_push_of_some _ (Heap.get?_push_of_some _ e))
      rw [z1] at z
      simp only [List.mem_cons, List.not_mem_nil, or_false] at z
      rcases z with z | z
      · exact Nat.ne_of_lt (Nat.lt_succ_of_lt ltb) z
      · exact Nat.ne_of_lt ltb z
    · have := e3 z
      rw [z1] at this
      exact Nat.le_of_lt (Nat.lt_of_succ_lt this)
end
end Dl
/-! DL28: sum(lists, []). -/
namespace Dl
open PySem PySem.Spec PyProof.Rows L2
def rSumL (K : PySem.W.Frag) : List V → Hp → VK → Prop := fun vs H Q => ∃ (l y : Addr) (xs a0 : List V) (yss : List (List V)), vs = [.ref l, .ref y] ∧ SqL K H l xs ∧ H y = some (.lst a0) ∧ Paired (fun v ys => ∃ a, v = V.ref a ∧ H a = some (.lst ys)) xs yss ∧ (a0 ++ yss.flatten).length ≤ sizeLine ∧
  (xs = [] → Q (.ref y) H) ∧ (xs ≠ [] → ∀ p, H p = none → Q (.ref p) (upd H p (.lst (a0 ++ yss.flatten))))
theorem catA_take (a0 : List Value) (zs : List (List Value)) : ∀ i, i ≤ zs.length → catA a0.toArray (fun j => (zs.getD j []).toArray) i = (a0 ++ (zs.take i).flatten).toArray
  | 0, _ => by simp [catA]
  | i + 1, h => by
    have e : zs.take (i + 1) = zs.take i ++ [zs.getD i []] := by
      rw [List.take_succ, List.getD_eq_getElem?_getD, List.getElem?_eq_getElem (by omega)]
      rfl
    rw [catA, catA_take a0 zs i (by omega), e]
    simp
theorem cr_sumL {X : Cx} (hc : X.calm = true) : CallR X (.builtin "sum") (rSumL X.K) := by
  intro pins s σ H vs us Q I r h
  obtain ⟨l, y, xs, a0, yss, rfl, hs, hy, hp, hz, q1, q2⟩ := h
  obtain ⟨its, rv, pl, _⟩ := I.list hs
  obtain ⟨_, it0, m0, r0, _, e0⟩ := I.lstM hy
  cases r with
  | cons ra rb =>
  cases rb with
  | cons rb rn =>
  cases rn
  cases ra
  cases rb
  have key : ∀ (xs : List V) (yss : List (List V)) (its : List Value), Paired (fun v ys => ∃ a, v = V.ref a ∧ H a = some (.lst ys)) xs yss → Vals xs its → ∃ zs : List (List Value), zs.length = its.length ∧ Vals yss.flatten zs.flatten ∧
      ∀ (j : Nat) (v : Value), its[j]? = some v → ∃ b m, v = .ref b ∧ s.heap.get? b = some { cls := .type "list", data := .seq ((zs.getD j []).toArray) m } := by
    intro xs yss its hp
    induction hp generalizing its with
    | nil =>
      intro rv
      cases rv
      exact ⟨[], rfl, .nil, fun j v e => by simp at e⟩
    | @cons v ys vs zss h t ih =>
      intro rv
      cases rv with
      | cons rh rt =>
      obtain ⟨a, rfl, ha⟩ := h
      obtain ⟨_, it1, m1, r1, _, e1⟩ := I.lstM ha
      obtain ⟨zs, l1, l2, l3⟩ := ih _ rt
      cases rh
      refine ⟨it1 :: zs, by rw [List.length_cons, List.length_cons, l1], ?_, fun j v e => ?_⟩
      · rw [List.flatten_cons, List.flatten_cons]
        exact r1.append l2
      · cases j with
        | zero =>
          simp at e
          exact ⟨a, m1, e.symm, by simpa using e1⟩
        | succ j => simpa using l3 j v (by simpa using e)
  obtain ⟨zs, l1, l2, l3⟩ := key xs yss its hp rv
  have all : Vals (a0 ++ yss.flatten) (it0 ++ zs.flatten) := r0.append l2
  have ec : catA it0.toArray (fun j => (zs.getD j []).toArray) its.toArray.size = (it0 ++ zs.flatten).toArray := by
    rw [catA_take it0 zs _ (by rw [List.size_toArray]; omega), List.size_toArray, ← l1, List.take_length]
  have len : (it0 ++ zs.flatten).length = (a0 ++ yss.flatten).length := all.length.symm
  refine sumLists (fun j => (zs.getD j []).toArray) (I.ok.hd hc) pl.isList e0 (fun j v e => l3 j v (by simpa using e)) (by rw [ec, List.size_toArray, len]; exact hz) fun s' T m k1 g1 o1 hT n1 n2 => ?_
  rw [ec] at hT
  by_cases he : xs = []
  · have z : its.toArray.size = 0 := by
      subst he
      cases rv
      rfl
    have eT := n1 z
    subst eT
    have J : Inv X pins σ H s' := by
      have e : s' = { s with heap := s'.heap, gens := s'.gens, drawn := s'.drawn, toks := s'.toks } := by
        cases s'
        cases s
        cases o1
        rfl
      rw [e]
      exact Inv.call (ch := []) I (Un.kept k1) (I.hok.kept k1) (by rw [g1]; exact I.bare) (fun _ z => nomatch z)
    exact ⟨.ref T, H, J, rfl, q1 he⟩
  · have z : 0 < its.toArray.size := by
      rw [List.size_toArray, ← rv.length]
      exact List.length_pos_iff.mpr he
    have hT2 := n2 z
    have hn : H T = none := I.hok.fresh hT2
    have J : Inv X pins σ (upd H T (.lst (a0 ++ yss.flatten))) s' := by
      have e : s' = { s with heap := s'.heap, gens := s'.gens, drawn := s'.drawn, toks := s'.toks } := by
        cases s'
        cases s
        cases o1
        rfl
      rw [e]
      exact Inv.call (ch := []) I (Un.laid k1 hT2 hn) (I.hok.laid k1 hT2 ⟨hz, it0 ++ zs.flatten, m, all, hT⟩) (by rw [g1]; exact I.bare) (fun _ z => nomatch z)
    exact ⟨.ref T, _, J, rfl, q2 he T hn⟩
def listsD : List D → Option (List (List D))
  | [] => some []
  | .lst x :: l => (listsD l).map (x :: ·)
  | _ :: _ => none
def sumAD : List D → Option D
  | [.lst ls, .lst a0] => (listsD ls).bind fun xs => if (a0 ++ xs.flatten).length ≤ 16777216 then some (.lst (a0 ++ xs.flatten)) else none
  | l => sumD l
theorem Reps.lists {R : RX} {I : Addr → Prop} {H : Hp} : ∀ {vs : List V} {ds : List D} {xs : List (List D)}, Reps R I H vs ds → listsD ds = some xs → ∃ yss, Paired (fun v ys => ∃ a, v = V.ref a ∧ H a = some (.lst ys)) vs yss ∧ Reps R I H yss.flatten xs.flatten
  | _, _, _, .nil, e => by cases e; exact ⟨[], .nil, .nil⟩
  | _, d :: ds, xs, .cons r t, e => by
    cases d <;> first | (cases e; done) | skip
    rename_i x
    obtain ⟨zs, e1, rfl⟩ := Option.map_eq_some_iff.mp (show (listsD ds).map (x :: ·) = some xs from e)
    obtain ⟨yss, p1, p2⟩ := Reps.lists t e1
    cases r with
    | lst h1 h2 q => exact ⟨_ :: yss, .cons ⟨_, rfl, h2⟩ p1, by rw [List.flatten_cons, List.flatten_cons]; exact q.append p2⟩
def rSumA (K : PySem.W.Frag) : List V → Hp → VK → Prop := fun xs H Q => rSum K xs H Q ∨ rSumL K xs H Q
theorem cr_sumA {X : Cx} (hc : X.calm = true) : CallR X (.builtin "sum") (rSumA X.K) := CallR.or (cr_sum hc) (cr_sumL hc)
theorem sumA_ok {R : RX} : CallD R (rSumA R.K) sumAD := by
  intro I H xs ds z Q r e k
  by_cases h : ∃ ls a0, ds = [.lst ls, .lst a0]
  · obtain ⟨ls, a0, rfl⟩ := h
    obtain ⟨zs, e1, e2⟩ := Option.bind_eq_some_iff.mp (show (listsD ls).bind (fun xs => if (a0 ++ xs.flatten).length ≤ 16777216 then some (D.lst (a0 ++ xs.flatten)) else none) = some z from e)
    split at e2
    · rename_i hz
      cases e2
      obtain ⟨v, u, rfl, r1, r2⟩ := reps2 r
      cases r1 with
      | @lst a1 vs _ h1 h1' t1 =>
      cases r2 with
      | @lst a2 ws _ h2 h2' t2 =>
      obtain ⟨yss, p1, p2⟩ := t1.lists e1
      have all := t2.append p2
      refine .inr ⟨a1, a2, vs, ws, yss, rfl, .of h1', h2', p1, by rw [all.length, sizeLine_eq]; exact hz, fun he => ?_, fun _ p hp => ?_⟩
      · subst he
        cases p1
        cases t1
        cases e1
        refine here2 k ?_
        simpa using Rep.lst h2 h2' t2
      · exact k (.ref p) (fun a => I a ∨ a = p) _ (same_upd hp) (fun a h => .inl h) (fun a h => h.imp (fun z => z) fun (e : a = p) => by rw [e]; exact hp) (.lst (.inr rfl) upd_same (all.ext (.same (same_upd hp)) fun _ h => .inl h))
    · cases e2
  · have e : sumD ds = some z := by
      unfold sumAD at e
      split at e
      · exact (h ⟨_, _, rfl⟩).elim
      · exact e
    exact .inl (sum_ok I H xs ds z Q r e k)
end Dl
/-! DL29: own tables: d[k] = v. -/
namespace Dl
open PySem PySem.Spec PyProof.Rows L2
def ownT (Γ : Env) (i : Nat) : Option (List (Key × D)) := match Γ[i]? with
  | some (some (.own (.dct ds))) => some ds
  | _ => none
section
variable {X : Cx} {R : RX} {Wx : WX} {P W Wa Wb B Ba Bb T : List Nat} {a b c e o : Expr} {pos : Pos} {I I' : Addr → Prop} {F F' : Fps} {Γ Γ' : Env} {σ : L2.St} {H H' : Hp}
theorem SA.ownT (sa : SA R I F Γ σ H) {i : Nat} {ds : List (Key × D)} (h : Dl.ownT Γ i = some ds) : ∃ p kvs, σ[i]? = some (some (.ref p)) ∧ H p = some (.dK kvs) ∧ RepK R I H kvs ds ∧ ∀ a, F i a ↔ a = p := by
  have k := sa.ok i
  unfold Dl.ownT at h
  split at h
  · rename_i l e1
    cases h
    rw [e1] at k
    obtain ⟨v, ev, p, xs, rfl, h1, h2, h3⟩ := k
    exact ⟨p, xs, ev, h1, h2, h3⟩
  · cases h
theorem SA.putT (sa : SA R I F Γ σ H) {i : Nat} {ds zs : List (Key × D)} {p : Addr} {ys : List (Key × V)} (h : Dl.ownT Γ i = some ds) (hs : σ[i]? = some (some (.ref p))) (hF : ∀ a, F i a ↔ a = p) (hp : ∃ xs, H p = some (.dK xs)) (r : RepK R I H ys zs) :
    SA R I F (Γ.set i (some (.own (.dct zs)))) σ (upd H p (.dK ys)) ∧ Ext I H (upd H p (.dK ys)) := by
  obtain ⟨xs, hp⟩ := hp
  have nI : ¬ I p := sa.apt i p ((hF p).mpr rfl)
  have ex : Ext I H (upd H p (.dK ys)) := by
    refine ⟨fun a o x e => ?_, fun a zs e => ?_, fun a o u e => ?_⟩
    · rw [upd_ne (show a ≠ p from fun z => nI (z ▸ x))]; exact e
    · rw [upd_ne (show a ≠ p from fun z => by subst z; rw [hp] at e; cases e)]; exact e
    · rw [upd_ne (show a ≠ p from fun z => by subst z; rw [hp] at e; cases e)]; exact e
  have fs : ∀ j a o, j ≠ i → F j a → H a = some o → upd H p (.dK ys) a = some o := fun j a o hj x e => by
    rw [upd_ne (show a ≠ p from fun z => hj (sa.dis j i a x ((hF a).mpr z)))]; exact e
  have hi : i < Γ.length := by
    unfold Dl.ownT at h
    split at h
    · rename_i l e1
      exact (List.getElem?_eq_some_iff.mp e1).1
    · cases h
  refine ⟨⟨by rw [List.length_set]; exact sa.len, fun j => ?_, sa.dis, sa.apt, fun a x => ?_, fun j a x => ?_⟩, ex⟩
  · by_cases hj : j = i
    · subst hj
      rw [List.getElem?_set_self hi]
      exact ⟨.ref p, hs, p, ys, rfl, upd_same, r.ext ex fun _ h => h, hF⟩
    · rw [List.getElem?_set_ne (Ne.symm hj)]
      exact (sa.ok j).ext ex fun a o x => fs j a o hj x
  · obtain ⟨o, e⟩ := Option.ne_none_iff_exists'.mp (sa.itr a x)
    rw [ex.i a o x e]
    exact Option.some_ne_none o
  · by_cases hj : j = i
    · subst hj
      obtain rfl := (hF a).mp x
      exact ⟨_, upd_same, (fun _ e => nomatch e), fun _ _ e => nomatch e⟩
    · obtain ⟨o, e, t⟩ := sa.trk j a x
      exact ⟨o, fs j a o hj x e, t⟩
def sPutK (i : Nat) (B : List Nat) (fe fi : M D) : MS := fun Γ => (fe Γ).thenS fun y Γ1 => match ownT Γ1 i with
  | none => .bad
  | some _ => (fi Γ1).thenS fun k Γ2 => match keyD k with
    | none => .bad
    | some ky => match ownT (settle y B Γ2) i with
      | none => .bad
      | some ds => if ds.length < 16777216 then .next ((settle y B Γ2).set i (some (.own (.dct (putD ds ky y))))) else .bad
theorem ds_putK {i : Nat} {o : Expr} {fe fi : M D} {p2 : Pos} (hu : X.A.units + 65 < cLine) (he : PE X e (tD R Wx fe B W)) (hn : PE X o (tVar i)) (hi : PE X a (tD R Wx fi Ba Wa)) (hd : ∀ j ∈ B, j ∉ Wa := by decide)
    (hs : swapsWith e (some (.Subscript o a p2)) pos.line X.env = pure false := by rfl) :
    PS X (.Assign [.Subscript o a p2] e pos) (tDS R Wx P (sPutK i B fe fi)) := PS.imp (ps_dput (by omega) hn hi he hs) fun E σ H ⟨Γ, I, F, sa, g⟩ => by
  refine ⟨Γ, I, F, sa, (g.expr W).imp fun y Γ1 I1 F1 H1 sa1 s1 g1 v rv => ?_⟩
  cases e0 : ownT Γ1 i with
  | none => simp only [e0] at g1; exact g1.elim
  | some ds0 =>
    simp only [e0] at g1
    obtain ⟨p, xs0, es0, ep0, _, hF0⟩ := sa1.ownT e0
    refine ⟨.ref p, es0, Γ1, I1, F1, sa1, (g1.expr Wa).imp fun k Γ2 I2 F2 H2 sa2 s2 g2 u ru => ?_⟩
    cases ek : keyD k with
    | none => simp only [ek] at g2; exact g2.elim
    | some ky =>
      simp only [ek] at g2
      obtain rfl := ru.key ek
      obtain ⟨I3, F3, sa3, r3, st3⟩ := settle_at sa2 (rv.stp sa1 s2 hd)
      cases e1 : ownT (settle y B Γ2) i with
      | none => simp only [e1] at g2; exact g2.elim
      | some ds =>
        simp only [e1] at g2
        obtain ⟨p', xs, es', ep', rx, hF⟩ := sa3.ownT e1
        rw [es0] at es'
        cases es'
        split at g2
        · rename_i hz
          refine ⟨p, upd H2 p (.dK (putK xs ky v)), rfl, .inl ⟨xs, ky, ep', rfl, by rw [rx.len, sizeLine_eq]; exact hz, rfl⟩, ?_⟩
          obtain ⟨sa4, ex4⟩ := sa3.putT (ys := putK xs ky v) e1 es0 hF ⟨_, ep'⟩ (RepK.put r3 rx)
          have s4 : StpS P I3 F3 σ H2 I3 F3 σ (upd H2 p (.dK (putK xs ky v))) := ⟨fun a o e n => by
              rw [upd_ne (show a ≠ p from fun z => n i ((hF a).mpr z))]; exact e, fun i a x => .inl ⟨i, x⟩, fun a x => .inl x, fun _ x => x, fun a x => by
              by_cases e : a = p
              · subst e; rw [upd_same] at x; cases x
              · rw [upd_ne e] at x; exact x, fun _ _ => rfl⟩
          exact g2 I3 F3 σ _ sa4 (st3.trans s4)
        · exact g2.elim
end
end Dl
/-! DLU: plain: running denotations by simp; draws. -/
namespace Dl
def isOwnD : D → Bool
  | .own _ => true
  | _ => false
def unown : D → D
  | .own c => c
  | d => d
@[simp] theorem isOwnD_own (d : D) : isOwnD (.own d) = true := rfl
@[simp] theorem isOwnD_non : isOwnD .non = false := rfl
@[simp] theorem isOwnD_bl (b : Bool) : isOwnD (.bl b) = false := rfl
@[simp] theorem isOwnD_int (b : Int) : isOwnD (.int b) = false := rfl
@[simp] theorem isOwnD_str (b : PySem.Str) : isOwnD (.str b) = false := rfl
@[simp] theorem isOwnD_tup (b : List D) : isOwnD (.tup b) = false := rfl
@[simp] theorem isOwnD_lst (b : List D) : isOwnD (.lst b) = false := rfl
@[simp] theorem isOwnD_scr (b : List Int) : isOwnD (.scr b) = false := rfl
@[simp] theorem isOwnD_dct (b) : isOwnD (.dct b) = false := rfl
@[simp] theorem isOwnD_ins (c b) : isOwnD (.ins c b) = false := rfl
@[simp] theorem unown_own (d : D) : unown (.own d) = d := rfl
theorem strip_eq (d : D) : strip d = if isOwnD d = true then unown d else d := by cases d <;> rfl
theorem getV_eq (Γ : Env) (i : Nat) : getV Γ i = match Γ[i]? with
    | some (some d) => if isOwnD d = true then none else some d
    | _ => none := by
  unfold getV
  cases Γ[i]? with
  | none => rfl
  | some o =>
    cases o with
    | none => rfl
    | some d => cases d <;> rfl
theorem getO_eq (Γ : Env) (i : Nat) : getO Γ i = match Γ[i]? with
    | some (some d) => some (if isOwnD d = true then unown d else d)
    | _ => none := by
  unfold getO
  cases Γ[i]? with
  | none => rfl
  | some o =>
    cases o with
    | none => rfl
    | some d => cases d <;> rfl
theorem isOwn_eq (Γ : Env) (i : Nat) : isOwn Γ i = match Γ[i]? with
    | some (some d) => isOwnD d
    | _ => false := by
  unfold isOwn
  cases Γ[i]? with
  | none => rfl
  | some o =>
    cases o with
    | none => rfl
    | some d => cases d <;> rfl
theorem settleX_eq (d : D) (B : List Nat) (Γ : Env) : settleX d B Γ = if isOwnD d = true then settle1 (unown d) B Γ else Dl.settle d B Γ := by cases d <;> rfl
theorem sRetO_eq (i : Nat) (Γ : Env) : sRetO i Γ = match Γ[i]? with
    | some (some d) => if isOwnD d = true then .ret d (Γ.set i none) else .ret d Γ
    | _ => .bad := by
  unfold sRetO
  cases Γ[i]? with
  | none => rfl
  | some o =>
    cases o with
    | none => rfl
    | some d => cases d <;> rfl
theorem settleX_cons (d : D) (i : Nat) (B : List Nat) (Γ : Env) : settleX d (i :: B) Γ = if isOwnD d = true then settle1 (unown d) (i :: B) Γ else Dl.settle d (i :: B) Γ := settleX_eq d (i :: B) Γ
theorem settle_cons (d : D) (i : Nat) (B : List Nat) (Γ : Env) : Dl.settle d (i :: B) Γ = if free d = true then Γ else frz (i :: B) Γ := rfl
theorem settle1_cons (d : D) (i : Nat) (B : List Nat) (Γ : Env) : settle1 d (i :: B) Γ = if free1 d = true then Γ else frz (i :: B) Γ := rfl
theorem settles_cons (ds : List D) (i : Nat) (B : List Nat) (Γ : Env) : settles ds (i :: B) Γ = if frees ds = true then Γ else frz (i :: B) Γ := rfl
theorem log2_lt' {x k : Nat} (h : x < 2 ^ k) (hk : 0 < k) : x.log2 < k := by
  by_cases hx : x = 0
  · subst hx
    rw [show Nat.log2 0 = 0 from by decide]
    exact hk
  · exact (Nat.log2_lt hx).mpr h
theorem log2_mono {x y : Nat} (h : x ≤ y) : x.log2 ≤ y.log2 := by
  by_cases hy : y = 0
  · subst hy
    rw [Nat.le_zero.mp h]
    exact Nat.le_refl _
  · have := (Nat.log2_lt (n := y) (k := y.log2 + 1) hy).mp (by omega)
    have := log2_lt' (x := x) (k := y.log2 + 1) (by omega) (by omega)
    omega
theorem intBits_mono {x y : Int} (h : x.natAbs ≤ y.natAbs) : PySem.Builtin.Int.intBits x ≤ PySem.Builtin.Int.intBits y := by
  unfold PySem.Builtin.Int.intBits
  by_cases hx : x = 0
  · subst hx
    exact Nat.zero_le _
  · have hy : y ≠ 0 := fun z => by subst z; omega
    rw [if_neg (by simpa using hx), if_neg (by simpa using hy)]
    have := log2_mono h
    omega
theorem intBits_lt {x : Int} {k : Nat} (h : x.natAbs < 2 ^ k) (hk : 0 < k) : PySem.Builtin.Int.intBits x ≤ k := by
  unfold PySem.Builtin.Int.intBits
  split
  · omega
  · have := log2_lt' h hk
    omega
theorem mulP_bits {i j : Int} (h : PySem.Builtin.Int.intBits i + PySem.Builtin.Int.intBits j ≤ 134217728) : mulP i j = true := by
  unfold mulP
  rw [decide_eq_true_eq]
  omega
theorem mulP_small {i j : Int} (hi : i.natAbs < 2 ^ 64) (hj : j.natAbs < 2 ^ 64) : mulP i j = true := by
  have h1 := intBits_lt hi (by omega)
  have h2 := intBits_lt hj (by omega)
  exact mulP_bits (by omega)
theorem mulD_int {i j : Int} (h : mulP i j = true) : mulD (.int i) (.int j) = some (.int (i * j)) := by
  show (if mulP i j = true then some (D.int (i * j)) else none) = _
  rw [if_pos h]
theorem fdvP_small {i j : Int} (h : 0 < j) (hj : j < 2 ^ 64) : fdvP i j = true := by
  unfold fdvP
  rw [Bool.and_eq_true, decide_eq_true_eq, decide_eq_true_eq]
  refine ⟨h, ?_⟩
  have : j.natAbs.log2 < 64 := log2_lt' (by omega) (by omega)
  omega
theorem powP_small {i j : Int} (hi : i.natAbs < 2 ^ 64) (h0 : 0 ≤ j) (h1 : j ≤ 1000000) : powP i j = true := by
  unfold powP
  rw [Bool.and_eq_true, Bool.and_eq_true, decide_eq_true_eq, decide_eq_true_eq, decide_eq_true_eq]
  exact ⟨h0, h1, hi⟩
/-! ### pens -/
def penD (cs : List Int) (at_ rest : Int) : D := .lst [.lst (cs.map .int), .int at_, .int rest]
structure PenOk (cs : List Int) : Prop where
  len : cs.length ≤ 63
  bits : ∀ z ∈ cs, PySem.Builtin.Int.intBits z ≤ 1048576
theorem atI_map {cs : List Int} {i : Int} (h0 : 0 ≤ i) (h1 : i < cs.length) : L2.atI (cs.map D.int) i = some (.int (cs[i.toNat]'(by omega))) := by
  unfold L2.atI L2.ixN
  rw [List.length_map, if_pos h0, if_pos h1]
  simp
theorem toPs_ints : ∀ cs : List Int, toPs (cs.map .int) = some (cs.map .int)
  | [] => rfl
  | c :: cs => by
    rw [List.map_cons, toPs, toPs_ints cs]
    rfl
theorem lay_ints : ∀ cs : List Int, PySem.PyData.canLayAll0 (cs.map .int) = true
  | [] => rfl
  | c :: cs => by
    rw [List.map_cons, PySem.PyData.canLayAll0, lay_ints cs]
    rfl
theorem depth_ints : ∀ cs : List Int, PySem.PyData.depthAll (cs.map .int) = 0
  | [] => rfl
  | c :: cs => by
    rw [List.map_cons, PySem.PyData.depthAll, depth_ints cs]
    rfl
theorem ne_nil (cs : List Int) : neD (.lst (cs.map .int)) (.lst []) = some (.bl (!cs.isEmpty)) := by
  have e : deepEq (.lst (cs.map .int)) (.lst []) = some cs.isEmpty := by
    unfold deepEq
    have s1 : PySem.SeqAt.shaped (.list (cs.map .int)) = true := by
      unfold PySem.SeqAt.shaped
      rw [PySem.PyData.canLay0, lay_ints, PySem.PyData.depth, depth_ints]
      rfl
    have s2 : PySem.SeqAt.shaped (.list []) = true := rfl
    simp only [toP, toPs_ints, toPs, Option.map_some, Option.bind_some, s1, s2, Bool.and_self, if_true]
    cases cs <;> rfl
  unfold neD eqB
  simp only [scalEq, e, Option.map_some]
def drawM (a b c d : Int) : MS :=
  (sSeq (sIf (mTB (mBin ltD (mVal 1) (mC (.int 2))))
  (sRetX [] (mC (.int 0)))
  sNil)
  (sSeq (sIf (mTB (mBin gtD (mOwnIxA 0 (mC (.int 2))) (mC (.int 0))))
  (sSeq (sSetX 5 [] (mBin modD (mCB intOf (mCons (mOwnIxA 0 (mC (.int 2))) mNil)) (mVal 1)))
  (sSeq (sPut 0 [] (mBin fdvD (mCB intOf (mCons (mOwnIxA 0 (mC (.int 2))) mNil)) (mVal 1)) (mC (.int 2)))
  (sRetX [] (mVal 5))))
  sNil)
  (sSeq (sSetX 2 [] (mOwnIxA 0 (mC (.int 1))))
  (sSeq (sPut 0 [] (mBin addD (mVal 2) (mC (.int 1))) (mC (.int 1)))
  (sSeq (sSetX 3 [] (mBin addD (mBin mulD (mC (.int a)) (mVal 2)) (mC (.int b))))
  (sSeq (sIf (mTB (mBin neD (mOwnIxA 0 (mC (.int 0))) (mStrip (mOwnL mNil))))
  (sSetX 3 [] (mBin ixA (mOwnIxA 0 (mC (.int 0))) (mBin modD (mCB intOf (mCons (mVal 2) mNil)) (mCB lenA (mCons (mOwnIxA 0 (mC (.int 0))) mNil)))))
  sNil)
  (sSeq (sIf (mAnd (mTB (mBin ltD (mVal 2) (mCB lenA (mCons (mOwnIxA 0 (mC (.int 0))) mNil)))) (mTB (mBin geD (mCB absD (mCons (mVal 3) mNil)) (mBin powD (mC (.int 10)) (mC (.int 18))))))
  (sSeq (sSetX 6 [] (mBin addD (mBin mulD (mC (.int 2)) (mBin subD (mCB absD (mCons (mVal 3) mNil)) (mBin powD (mC (.int 10)) (mC (.int 18))))) (mCB intOf (mCons (mBin ltD (mVal 3) (mC (.int 0))) mNil))))
  (sSeq (sPut 0 [] (mBin fdvD (mCB intOf (mCons (mVal 6) mNil)) (mVal 1)) (mC (.int 2)))
  (sRetX [] (mBin modD (mCB intOf (mCons (mVal 6) mNil)) (mVal 1)))))
  sNil)
  (sSeq (sSetX 4 [] (mBin modD (mCB intOf (mCons (mBin powD (mBin addD (mBin addD (mBin modD (mCB intOf (mCons (mVal 3) mNil)) (mC (.int 2147483549))) (mBin mulD (mC (.int c)) (mVal 2))) (mC (.int b))) (mC (.int 3))) mNil)) (mC (.int 2147483629))))
  (sSeq (sSetX 4 [] (mBin modD (mCB intOf (mCons (mBin powD (mBin addD (mBin addD (mBin mulD (mVal 4) (mBin addD (mBin mulD (mC (.int 2)) (mVal 2)) (mC (.int d)))) (mBin mulD (mBin mulD (mC (.int a)) (mVal 2)) (mVal 2))) (mC (.int c))) (mC (.int 5))) mNil)) (mC (.int 2147483563))))
  (sRetX [] (mBin modD (mCB intOf (mCons (mBin fdvD (mVal 4) (mC (.int 16))) mNil)) (mVal 1))))))))))))
section
variable {a b c d : Int} {cs : List Int} {p q many : Int}
theorem draw_small (h : many < 2) : fnD true 2 5 (drawM a b c d) [.own (penD cs p q), .int many] = .ret (.int 0) [some (.own (penD cs p q))] := by
  unfold drawM penD
  simp [sSeq, sIf, sRetX, sSetX, sPut, sDrop, sRetO_eq, sRetN, sPass, sNil, mBin, mVal, mOwnIx, mOwnIxA, mOwn, mC, mTB, mAnd, mOr, mNot, mCB, mCons, mNil, mTup, mIf, mFree, mCall, mCallO, mIsi, mTru, mUn, mAndV, mOrV, mNotV, mSl, mPart, mNoPart, mCW, mMth, mPop, mOwnL, mStrip, getV_eq, getO_eq, ownL, asB, asI, optO, fin1, fnD, settleX_nil, settleX_cons, settles_nil, settle_nil, settle1_nil, settle_cons, settle1_cons, settles_cons, frz, free, frees, free1, ltD, gtD, leD, geD, ordD, intOf, absD, lenD, lenA, listW, ixD, ixA, L2.atI, L2.ixN, addD, subD, modD, fdvD, powD, Dl.intD, negD, strip_eq, isOwn_eq, truthD, isiD, tyOf, isAny, kt0, h]
theorem draw_rest (h : ¬ many < 2) (h2 : 0 < q) (hm : many < 2 ^ 64) : fnD true 2 5 (drawM a b c d) [.own (penD cs p q), .int many] = .ret (.int (q % many)) [some (.own (penD cs p (q / many)))] := by
  unfold drawM penD
  have hm0 : 0 < many := by omega
  simp [sSeq, sIf, sRetX, sSetX, sPut, sDrop, sRetO_eq, sRetN, sPass, sNil, mBin, mVal, mOwnIx, mOwnIxA, mOwn, mC, mTB, mAnd, mOr, mNot, mCB, mCons, mNil, mTup, mIf, mFree, mCall, mCallO, mIsi, mTru, mUn, mAndV, mOrV, mNotV, mSl, mPart, mNoPart, mCW, mMth, mPop, mOwnL, mStrip, getV_eq, getO_eq, ownL, asB, asI, optO, fin1, fnD, settleX_nil, settleX_cons, settles_nil, settle_nil, settle1_nil, settle_cons, settle1_cons, settles_cons, frz, free, frees, free1, ltD, gtD, leD, geD, ordD, intOf, absD, lenD, lenA, listW, ixD, ixA, L2.atI, L2.ixN, addD, subD, modD, fdvD, powD, Dl.intD, negD, strip_eq, isOwn_eq, truthD, isiD, tyOf, isAny, kt0, h, h2, hm0, fdvP_small hm0 hm]
def mixI (a b c d p cell : Int) : Int := ((((cell % 2147483549 + c * p + b) ^ 3 % 2147483629) * (2 * p + d) + a * p * p + c) ^ 5 % 2147483563) / 16
structure Small (a b c d p : Int) : Prop where
  ha : 0 ≤ a ∧ a ≤ 200000
  hb : 0 ≤ b ∧ b ≤ 200000
  hc : 0 ≤ c ∧ c ≤ 200000
  hd : 0 ≤ d ∧ d ≤ 200000
  hp : 0 ≤ p ∧ p ≤ 4000000
theorem small_mul {x y m n : Int} (hx : 0 ≤ x ∧ x ≤ m) (hy : 0 ≤ y ∧ y ≤ n) : 0 ≤ x * y ∧ x * y ≤ m * n := ⟨Int.mul_nonneg hx.1 hy.1, Int.mul_le_mul hx.2 hy.2 hy.1 (Int.le_trans hx.1 hx.2)⟩
theorem draw_empty (S : Small a b c d p) (h : ¬ many < 2) (h2 : ¬ 0 < q) (hm : many < 2 ^ 64) :
    fnD true 2 5 (drawM a b c d) [.own (penD [] p q), .int many] = .ret (.int (mixI a b c d p (a * p + b) % many)) [some (.own (penD [] (p + 1) q))] := by
  obtain ⟨ha, hb, hc, hd, hp⟩ := S
  have hm0 : 0 < many := by omega
  have hap := small_mul ha hp
  have hcp := small_mul hc hp
  have happ := small_mul hap hp
  have n0 : neD (.lst []) (.lst []) = some (.bl false) := ne_nil []
  have m1 : mulD (.int a) (.int p) = some (.int (a * p)) := mulD_int (mulP_small (by omega) (by omega))
  have m2 : mulD (.int c) (.int p) = some (.int (c * p)) := mulD_int (mulP_small (by omega) (by omega))
  have m3 : mulD (.int 2) (.int p) = some (.int (2 * p)) := mulD_int (mulP_small (by omega) (by omega))
  have m4 : mulD (.int (a * p)) (.int p) = some (.int (a * p * p)) := mulD_int (mulP_small (by omega) (by omega))
  have m5 : ∀ x : Int, mulD (.int (x % 2147483629)) (.int (2 * p + d)) = some (.int (x % 2147483629 * (2 * p + d))) := fun x => mulD_int (mulP_small (by omega) (by omega))
  have p1 : ∀ x : Int, powP (x % 2147483549 + c * p + b) 3 = true := fun x => powP_small (by omega) (by omega) (by omega)
  have p2 : ∀ x : Int, powP (x % 2147483629 * (2 * p + d) + a * p * p + c) 5 = true := fun x => by
    have h3 := small_mul (x := x % 2147483629) (y := 2 * p + d) (m := 2147483629) (n := 8200000) (by omega) (by omega)
    exact powP_small (by omega) (by omega) (by omega)
  have f1 : ∀ x : Int, fdvP x 16 = true := fun x => fdvP_small (by omega) (by omega)
  have hlt : ¬ p < 0 := by omega
  unfold drawM penD mixI
  simp [sSeq, sIf, sRetX, sSetX, sPut, sDrop, sRetO_eq, sRetN, sPass, sNil, mBin, mVal, mOwnIx, mOwnIxA, mOwn, mC, mTB, mAnd, mOr, mNot, mCB, mCons, mNil, mTup, mIf, mFree, mCall, mCallO, mIsi, mTru, mUn, mAndV, mOrV, mNotV, mSl, mPart, mNoPart, mCW, mMth, mPop, mOwnL, mStrip, getV_eq, getO_eq, ownL, asB, asI, optO, fin1, fnD, settleX_nil, settleX_cons, settles_nil, settle_nil, settle1_nil, settle_cons, settle1_cons, settles_cons, frz, free, frees, free1, ltD, gtD, leD, geD, ordD, intOf, absD, lenD, lenA, listW, ixD, ixA, L2.atI, L2.ixN, addD, subD, modD, fdvD, powD, Dl.intD, negD, strip_eq, isOwn_eq, truthD, isiD, tyOf, isAny, kt0, h, h2, hm0, n0, m1, m2, m3, m4, m5, p1, p2, f1, hlt]
theorem draw_cell {cell : Int} (S : Small a b c d p) (h : ¬ many < 2) (h2 : ¬ 0 < q) (hm : many < 2 ^ 64) (O : PenOk cs) (h0 : cs ≠ []) (hi : cs[(p % cs.length).toNat]? = some cell) :
    fnD true 2 5 (drawM a b c d) [.own (penD cs p q), .int many] = if p < cs.length ∧ 10 ^ 18 ≤ (if cell < 0 then -cell else cell) then
      .ret (.int ((2 * ((if cell < 0 then -cell else cell) - 10 ^ 18) + (if cell < 0 then 1 else 0)) % many)) [some (.own (penD cs (p + 1) ((2 * ((if cell < 0 then -cell else cell) - 10 ^ 18) + (if cell < 0 then 1 else 0)) / many)))]
      else .ret (.int (mixI a b c d p cell % many)) [some (.own (penD cs (p + 1) q))] := by
  obtain ⟨ha, hb, hc, hd, hp⟩ := S
  have hm0 : 0 < many := by omega
  have hap := small_mul ha hp
  have hcp := small_mul hc hp
  have happ := small_mul hap hp
  have n0 : neD (.lst (cs.map .int)) (.lst []) = some (.bl true) := by
    rw [ne_nil]
    cases cs with
    | nil => exact (h0 rfl).elim
    | cons x l => rfl
  have hl : 0 < (cs.length : Int) := by
    cases cs with
    | nil => exact (h0 rfl).elim
    | cons x l => rw [List.length_cons]; omega
  have m1 : mulD (.int a) (.int p) = some (.int (a * p)) := mulD_int (mulP_small (by omega) (by omega))
  have m2 : mulD (.int c) (.int p) = some (.int (c * p)) := mulD_int (mulP_small (by omega) (by omega))
  have m3 : mulD (.int 2) (.int p) = some (.int (2 * p)) := mulD_int (mulP_small (by omega) (by omega))
  have m4 : mulD (.int (a * p)) (.int p) = some (.int (a * p * p)) := mulD_int (mulP_small (by omega) (by omega))
  have m5 : ∀ x : Int, mulD (.int (x % 2147483629)) (.int (2 * p + d)) = some (.int (x % 2147483629 * (2 * p + d))) := fun x => mulD_int (mulP_small (by omega) (by omega))
  have p1 : ∀ x : Int, powP (x % 2147483549 + c * p + b) 3 = true := fun x => powP_small (by omega) (by omega) (by omega)
  have p2 : ∀ x : Int, powP (x % 2147483629 * (2 * p + d) + a * p * p + c) 5 = true := fun x => by
    have h3 := small_mul (x := x % 2147483629) (y := 2 * p + d) (m := 2147483629) (n := 8200000) (by omega) (by omega)
    exact powP_small (by omega) (by omega) (by omega)
  have p3 : powP 10 18 = true := by decide
  have f1 : ∀ x : Int, fdvP x 16 = true := fun x => fdvP_small (by omega) (by omega)
  have f2 : ∀ x : Int, fdvP x many = true := fun x => fdvP_small hm0 hm
  have hlt : ¬ p < 0 := by omega
  have ix1 : 0 ≤ p % cs.length := Int.emod_nonneg _ (by omega)
  have ix2 : p % cs.length < cs.length := Int.emod_lt_of_pos _ hl
  have hl' : 0 < cs.length := by omega
  have hi2 : ∀ z, cs[(p % cs.length).toNat]'z = cell := fun z => Option.some.inj ((List.getElem?_eq_getElem z).symm.trans hi)
  have bits := O.bits cell (List.mem_of_getElem? hi)
  have m6 : ∀ x : Int, 0 ≤ x → x.natAbs ≤ cell.natAbs → mulD (.int 2) (.int x) = some (.int (2 * x)) := fun x h1 h3 => mulD_int (mulP_bits (by
    have b1 := intBits_mono h3
    have b2 := intBits_lt (x := 2) (k := 64) (by omega) (by omega)
    omega))
  unfold drawM penD mixI
  by_cases hneg : cell < 0
  · by_cases hp' : p < cs.length
    · by_cases hbig : (1000000000000000000 : Int) ≤ -cell
      · have m7 := m6 (-cell - 1000000000000000000) (by omega) (by omega)
        simp [sSeq, sIf, sRetX, sSetX, sPut, sDrop, sRetO_eq, sRetN, sPass, sNil, mBin, mVal, mOwnIx, mOwnIxA, mOwn, mC, mTB, mAnd, mOr, mNot, mCB, mCons, mNil, mTup, mIf, mFree, mCall, mCallO, mIsi, mTru, mUn, mAndV, mOrV, mNotV, mSl, mPart, mNoPart, mCW, mMth, mPop, mOwnL, mStrip, getV_eq, getO_eq, ownL, asB, asI, optO, fin1, fnD, settleX_nil, settleX_cons, settles_nil, settle_nil, settle1_nil, settle_cons, settle1_cons, settles_cons, frz, free, frees, free1, ltD, gtD, leD, geD, ordD, intOf, absD, lenD, lenA, listW, ixD, ixA, L2.atI, L2.ixN, addD, subD, modD, fdvD, powD, Dl.intD, negD, strip_eq, isOwn_eq, truthD, isiD, tyOf, isAny, kt0, h, h2, hm0, n0, m1, m2, m3, m4, m5, p1, p2, p3, f1, f2, hlt, ix1, ix2, hi2, hl, hl', hneg, hbig, hp', m7]
      · simp [sSeq, sIf, sRetX, sSetX, sPut, sDrop, sRetO_eq, sRetN, sPass, sNil, mBin, mVal, mOwnIx, mOwnIxA, mOwn, mC, mTB, mAnd, mOr, mNot, mCB, mCons, mNil, mTup, mIf, mFree, mCall, mCallO, mIsi, mTru, mUn, mAndV, mOrV, mNotV, mSl, mPart, mNoPart, mCW, mMth, mPop, mOwnL, mStrip, getV_eq, getO_eq, ownL, asB, asI, optO, fin1, fnD, settleX_nil, settleX_cons, settles_nil, settle_nil, settle1_nil, settle_cons, settle1_cons, settles_cons, frz, free, frees, free1, ltD, gtD, leD, geD, ordD, intOf, absD, lenD, lenA, listW, ixD, ixA, L2.atI, L2.ixN, addD, subD, modD, fdvD, powD, Dl.intD, negD, strip_eq, isOwn_eq, truthD, isiD, tyOf, isAny, kt0, h, h2, hm0, n0, m1, m2, m3, m4, m5, p1, p2, p3, f1, f2, hlt, ix1, ix2, hi2, hl, hl', hneg, hbig, hp']
    · simp [sSeq, sIf, sRetX, sSetX, sPut, sDrop, sRetO_eq, sRetN, sPass, sNil, mBin, mVal, mOwnIx, mOwnIxA, mOwn, mC, mTB, mAnd, mOr, mNot, mCB, mCons, mNil, mTup, mIf, mFree, mCall, mCallO, mIsi, mTru, mUn, mAndV, mOrV, mNotV, mSl, mPart, mNoPart, mCW, mMth, mPop, mOwnL, mStrip, getV_eq, getO_eq, ownL, asB, asI, optO, fin1, fnD, settleX_nil, settleX_cons, settles_nil, settle_nil, settle1_nil, settle_cons, settle1_cons, settles_cons, frz, free, frees, free1, ltD, gtD, leD, geD, ordD, intOf, absD, lenD, lenA, listW, ixD, ixA, L2.atI, L2.ixN, addD, subD, modD, fdvD, powD, Dl.intD, negD, strip_eq, isOwn_eq, truthD, isiD, tyOf, isAny, kt0, h, h2, hm0, n0, m1, m2, m3, m4, m5, p1, p2, p3, f1, f2, hlt, ix1, ix2, hi2, hl, hl', hneg, hp']
  · by_cases hp' : p < cs.length
    · by_cases hbig : (1000000000000000000 : Int) ≤ cell
      · have m7 := m6 (cell - 1000000000000000000) (by omega) (by omega)
        simp [sSeq, sIf, sRetX, sSetX, sPut, sDrop, sRetO_eq, sRetN, sPass, sNil, mBin, mVal, mOwnIx, mOwnIxA, mOwn, mC, mTB, mAnd, mOr, mNot, mCB, mCons, mNil, mTup, mIf, mFree, mCall, mCallO, mIsi, mTru, mUn, mAndV, mOrV, mNotV, mSl, mPart, mNoPart, mCW, mMth, mPop, mOwnL, mStrip, getV_eq, getO_eq, ownL, asB, asI, optO, fin1, fnD, settleX_nil, settleX_cons, settles_nil, settle_nil, settle1_nil, settle_cons, settle1_cons, settles_cons, frz, free, frees, free1, ltD, gtD, leD, geD, ordD, intOf, absD, lenD, lenA, listW, ixD, ixA, L2.atI, L2.ixN, addD, subD, modD, fdvD, powD, Dl.intD, negD, strip_eq, isOwn_eq, truthD, isiD, tyOf, isAny, kt0, h, h2, hm0, n0, m1, m2, m3, m4, m5, p1, p2, p3, f1, f2, hlt, ix1, ix2, hi2, hl, hl', hneg, hbig, hp', m7]
      · simp [sSeq, sIf, sRetX, sSetX, sPut, sDrop, sRetO_eq, sRetN, sPass, sNil, mBin, mVal, mOwnIx, mOwnIxA, mOwn, mC, mTB, mAnd, mOr, mNot, mCB, mCons, mNil, mTup, mIf, mFree, mCall, mCallO, mIsi, mTru, mUn, mAndV, mOrV, mNotV, mSl, mPart, mNoPart, mCW, mMth, mPop, mOwnL, mStrip, getV_eq, getO_eq, ownL, asB, asI, optO, fin1, fnD, settleX_nil, settleX_cons, settles_nil, settle_nil, settle1_nil, settle_cons, settle1_cons, settles_cons, frz, free, frees, free1, ltD, gtD, leD, geD, ordD, intOf, absD, lenD, lenA, listW, ixD, ixA, L2.atI, L2.ixN, addD, subD, modD, fdvD, powD, Dl.intD, negD, strip_eq, isOwn_eq, truthD, isiD, tyOf, isAny, kt0, h, h2, hm0, n0, m1, m2, m3, m4, m5, p1, p2, p3, f1, f2, hlt, ix1, ix2, hi2, hl, hl', hneg, hbig, hp']
    · simp [sSeq, sIf, sRetX, sSetX, sPut, sDrop, sRetO_eq, sRetN, sPass, sNil, mBin, mVal, mOwnIx, mOwnIxA, mOwn, mC, mTB, mAnd, mOr, mNot, mCB, mCons, mNil, mTup, mIf, mFree, mCall, mCallO, mIsi, mTru, mUn, mAndV, mOrV, mNotV, mSl, mPart, mNoPart, mCW, mMth, mPop, mOwnL, mStrip, getV_eq, getO_eq, ownL, asB, asI, optO, fin1, fnD, settleX_nil, settleX_cons, settles_nil, settle_nil, settle1_nil, settle_cons, settle1_cons, settles_cons, frz, free, frees, free1, ltD, gtD, leD, geD, ordD, intOf, absD, lenD, lenA, listW, ixD, ixA, L2.atI, L2.ixN, addD, subD, modD, fdvD, powD, Dl.intD, negD, strip_eq, isOwn_eq, truthD, isiD, tyOf, isAny, kt0, h, h2, hm0, n0, m1, m2, m3, m4, m5, p1, p2, p3, f1, f2, hlt, ix1, ix2, hi2, hl, hl', hneg, hp']
/-- a drawn number, and the pen behind it -/
theorem draw_ok (S : Small a b c d p) (hm : many < 2 ^ 64) (hq : 0 ≤ q) (O : PenOk cs) : ∃ r p' q', fnD true 2 5 (drawM a b c d) [.own (penD cs p q), .int many] = .ret (.int r) [some (.own (penD cs p' q'))] ∧
    p ≤ p' ∧ p' ≤ p + 1 ∧ 0 ≤ q' ∧ 0 ≤ r ∧ (r < many ∨ (many < 2 ∧ r = 0)) := by
  by_cases h : many < 2
  · exact ⟨0, p, q, draw_small h, by omega, by omega, hq, by omega, .inr ⟨h, rfl⟩⟩
  have hm0 : 0 < many := by omega
  by_cases h2 : 0 < q
  · exact ⟨_, _, _, draw_rest h h2 hm, by omega, by omega, Int.ediv_nonneg hq (by omega), Int.emod_nonneg _ (by omega), .inl (Int.emod_lt_of_pos _ hm0)⟩
  by_cases h0 : cs = []
  · subst h0
    exact ⟨_, _, _, draw_empty S h h2 hm, by omega, by omega, hq, Int.emod_nonneg _ (by omega), .inl (Int.emod_lt_of_pos _ hm0)⟩
  have hl : 0 < (cs.length : Int) := by
    cases cs with
    | nil => exact (h0 rfl).elim
    | cons x l => rw [List.length_cons]; omega
  have h1 : 0 ≤ p % cs.length := Int.emod_nonneg _ (by omega)
  have h3 : p % cs.length < cs.length := Int.emod_lt_of_pos _ hl
  have hi : cs[(p % cs.length).toNat]? = some (cs[(p % cs.length).toNat]'(by omega)) := List.getElem?_eq_getElem _
  have e := draw_cell S h h2 hm O h0 hi
  generalize cs[(p % cs.length).toNat]'(by omega) = cell at e
  by_cases hc : p < cs.length ∧ 10 ^ 18 ≤ (if cell < 0 then -cell else cell)
  · rw [if_pos hc] at e
    have h5 := hc.2
    refine ⟨_, _, _, e, by omega, by omega, Int.ediv_nonneg ?_ (by omega), Int.emod_nonneg _ (by omega), .inl (Int.emod_lt_of_pos _ hm0)⟩
    generalize (if cell < 0 then -cell else cell) = y at h5
    split <;> omega
  · rw [if_neg hc] at e
    exact ⟨_, _, _, e, by omega, by omega, hq, Int.emod_nonneg _ (by omega), .inl (Int.emod_lt_of_pos _ hm0)⟩
end
end Dl
/-! DLV: plain: texts, types, rows, loops. -/
namespace Dl
theorem ofString_inj {a b : String} : PySem.Str.ofString a = PySem.Str.ofString b ↔ a = b := by
  constructor
  · intro h
    rw [PySem.Str.ofString_eq_toList, PySem.Str.ofString_eq_toList] at h
    have h1 : (a.toList.map Char.toNat).toArray = (b.toList.map Char.toNat).toArray := by injection h
    have h2 : a.toList.map Char.toNat = b.toList.map Char.toNat := by simpa using h1
    have h3 : a.toList = b.toList := by
      refine List.map_inj_right (f := Char.toNat) (fun x y e => ?_) |>.mp h2
      exact Char.ext (UInt32.toNat_inj.mp e)
    exact String.ext h3
  · intro h; rw [h]
theorem ofString_beq {a b : String} : (PySem.Str.ofString a == PySem.Str.ofString b) = decide (a = b) := by
  by_cases h : a = b
  · subst h; simp
  · have : PySem.Str.ofString a ≠ PySem.Str.ofString b := fun z => h (ofString_inj.mp z)
    simp [h, this]
theorem kb_NoneType_bool : L2.kitB "NoneType" "bool" = some false := by decide +kernel
theorem kb_NoneType_int : L2.kitB "NoneType" "int" = some false := by decide +kernel
theorem kb_NoneType_str : L2.kitB "NoneType" "str" = some false := by decide +kernel
theorem kb_NoneType_tuple : L2.kitB "NoneType" "tuple" = some false := by decide +kernel
theorem kb_NoneType_list : L2.kitB "NoneType" "list" = some false := by decide +kernel
theorem kb_NoneType_dict : L2.kitB "NoneType" "dict" = some false := by decide +kernel
theorem kb_NoneType_float : L2.kitB "NoneType" "float" = some false := by decide +kernel
theorem kb_NoneType_set : L2.kitB "NoneType" "set" = some false := by decide +kernel
theorem kb_bool_bool : L2.kitB "bool" "bool" = some true := by decide +kernel
theorem kb_bool_int : L2.kitB "bool" "int" = some true := by decide +kernel
theorem kb_bool_str : L2.kitB "bool" "str" = some false := by decide +kernel
theorem kb_bool_tuple : L2.kitB "bool" "tuple" = some false := by decide +kernel
theorem kb_bool_list : L2.kitB "bool" "list" = some false := by decide +kernel
theorem kb_bool_dict : L2.kitB "bool" "dict" = some false := by decide +kernel
theorem kb_bool_float : L2.kitB "bool" "float" = some false := by decide +kernel
theorem kb_bool_set : L2.kitB "bool" "set" = some false := by decide +kernel
theorem kb_int_bool : L2.kitB "int" "bool" = some false := by decide +kernel
theorem kb_int_int : L2.kitB "int" "int" = some true := by decide +kernel
theorem kb_int_str : L2.kitB "int" "str" = some false := by decide +kernel
theorem kb_int_tuple : L2.kitB "int" "tuple" = some false := by decide +kernel
theorem kb_int_list : L2.kitB "int" "list" = some false := by decide +kernel
theorem kb_int_dict : L2.kitB "int" "dict" = some false := by decide +kernel
theorem kb_int_float : L2.kitB "int" "float" = some false := by decide +kernel
theorem kb_int_set : L2.kitB "int" "set" = some false := by decide +kernel
theorem kb_str_bool : L2.kitB "str" "bool" = some false := by decide +kernel
theorem kb_str_int : L2.kitB "str" "int" = some false := by decide +kernel
theorem kb_str_str : L2.kitB "str" "str" = some true := by decide +kernel
theorem kb_str_tuple : L2.kitB "str" "tuple" = some false := by decide +kernel
theorem kb_str_list : L2.kitB "str" "list" = some false := by decide +kernel
theorem kb_str_dict : L2.kitB "str" "dict" = some false := by decide +kernel
theorem kb_str_float : L2.kitB "str" "float" = some false := by decide +kernel
theorem kb_str_set : L2.kitB "str" "set" = some false := by decide +kernel
theorem kb_tuple_bool : L2.kitB "tuple" "bool" = some false := by decide +kernel
theorem kb_tuple_int : L2.kitB "tuple" "int" = some false := by decide +kernel
theorem kb_tuple_str : L2.kitB "tuple" "str" = some false := by decide +kernel
theorem kb_tuple_tuple : L2.kitB "tuple" "tuple" = some true := by decide +kernel
theorem kb_tuple_list : L2.kitB "tuple" "list" = some false := by decide +kernel
theorem kb_tuple_dict : L2.kitB "tuple" "dict" = some false := by decide +kernel
theorem kb_tuple_float : L2.kitB "tuple" "float" = some false := by decide +kernel
theorem kb_tuple_set : L2.kitB "tuple" "set" = some false := by decide +kernel
theorem kb_list_bool : L2.kitB "list" "bool" = some false := by decide +kernel
theorem kb_list_int : L2.kitB "list" "int" = some false := by decide +kernel
theorem kb_list_str : L2.kitB "list" "str" = some false := by decide +kernel
theorem kb_list_tuple : L2.kitB "list" "tuple" = some false := by decide +kernel
theorem kb_list_list : L2.kitB "list" "list" = some true := by decide +kernel
theorem kb_list_dict : L2.kitB "list" "dict" = some false := by decide +kernel
theorem kb_list_float : L2.kitB "list" "float" = some false := by decide +kernel
theorem kb_list_set : L2.kitB "list" "set" = some false := by decide +kernel
theorem kb_dict_bool : L2.kitB "dict" "bool" = some false := by decide +kernel
theorem kb_dict_int : L2.kitB "dict" "int" = some false := by decide +kernel
theorem kb_dict_str : L2.kitB "dict" "str" = some false := by decide +kernel
theorem kb_dict_tuple : L2.kitB "dict" "tuple" = some false := by decide +kernel
theorem kb_dict_list : L2.kitB "dict" "list" = some false := by decide +kernel
theorem kb_dict_dict : L2.kitB "dict" "dict" = some true := by decide +kernel
theorem kb_dict_float : L2.kitB "dict" "float" = some false := by decide +kernel
theorem kb_dict_set : L2.kitB "dict" "set" = some false := by decide +kernel
/-! ### a walk that an invariant goes along with -/
theorem loopS_all {g : AsT} {f : MS} (P : Nat → Env → Prop) : ∀ (ds : List D) (k : Nat) (Γ : Env), P k Γ → (∀ i d Γ, ds[i]? = some d → P (k + i) Γ → ∃ Γ1 Γ2, g d Γ = some Γ1 ∧ f Γ1 = .next Γ2 ∧ P (k + i + 1) Γ2) → ∃ Γ', loopS g f ds Γ = .next Γ' ∧ P (k + ds.length) Γ'
  | [], k, Γ, h, _ => ⟨Γ, rfl, h⟩
  | d :: ds, k, Γ, h, hs => by
    obtain ⟨Γ1, Γ2, e1, e2, h2⟩ := hs 0 d Γ rfl h
    obtain ⟨Γ', e3, h3⟩ := loopS_all P ds (k + 1) Γ2 h2 fun i c Γ e p => by
      have := hs (i + 1) c Γ (by simpa using e) (by rw [show k + (i + 1) = k + 1 + i from by omega]; exact p)
      rw [show k + (i + 1) + 1 = k + 1 + i + 1 from by omega] at this
      exact this
    refine ⟨Γ', ?_, ?_⟩
    · unfold loopS
      simp only [e1, e2, e3]
    · rw [List.length_cons, show k + (ds.length + 1) = k + 1 + ds.length from by omega]
      exact h3
theorem rangeI_len (lo : Int) (n : Nat) : (rangeI lo n).length = n := by unfold rangeI; rw [List.length_map, List.length_range]
theorem rangeI_get {lo : Int} {n i : Nat} {d : D} (h : (rangeI lo n)[i]? = some d) : i < n ∧ d = .int (lo + i) := by
  have hi : i < n := by
    have := (List.getElem?_eq_some_iff.mp h).1
    rw [rangeI_len] at this
    exact this
  unfold rangeI at h
  rw [List.getElem?_map, List.getElem?_range hi] at h
  exact ⟨hi, (Option.some.inj h).symm⟩
/-! ### comprehensions -/
theorem loopC_pure {v : Nat} {fe : M D} {F : D → D} {Γ : Env} (hv : v < Γ.length) : ∀ {ds : List D}, (∀ d ∈ ds, fe (Γ.set v (some d)) = .ok (F d) (Γ.set v (some d))) → loopC (aName v) [v] mYes fe ds Γ = .ok (ds.map F) Γ
  | [], _ => rfl
  | d :: ds, h => by
    have e1 : aName v d (wipeG Γ [v]) = some (Γ.set v (some d)) := by
      unfold aName wipeG wipeG
      rw [List.length_set, if_pos hv, List.set_set]
    have e2 : backG Γ [v] (Γ.set v (some d)) = Γ := by
      unfold backG backG
      rw [List.set_set, List.getElem?_eq_getElem hv]
      show Γ.set v Γ[v] = Γ
      exact List.set_getElem_self hv
    unfold loopC
    simp only [e1, mYes, h d List.mem_cons_self, if_true, e2, loopC_pure hv fun c hc => h c (List.mem_cons_of_mem _ hc)]
    rfl
theorem loopC_filter {v : Nat} {ft : M Bool} {fe : M D} {p : D → Bool} {F : D → D} {Γ : Env} (hv : v < Γ.length) : ∀ {ds : List D}, (∀ d ∈ ds, ft (Γ.set v (some d)) = .ok (p d) (Γ.set v (some d))) → (∀ d ∈ ds, p d = true → fe (Γ.set v (some d)) = .ok (F d) (Γ.set v (some d))) → loopC (aName v) [v] ft fe ds Γ = .ok ((ds.filter p).map F) Γ
  | [], _, _ => rfl
  | d :: ds, ht, h => by
    have e1 : aName v d (wipeG Γ [v]) = some (Γ.set v (some d)) := by
      unfold aName wipeG wipeG
      rw [List.length_set, if_pos hv, List.set_set]
    have e2 : backG Γ [v] (Γ.set v (some d)) = Γ := by
      unfold backG backG
      rw [List.set_set, List.getElem?_eq_getElem hv]
      show Γ.set v Γ[v] = Γ
      exact List.set_getElem_self hv
    have ih := loopC_filter hv (ds := ds) (fun c hc => ht c (List.mem_cons_of_mem _ hc)) fun c hc => h c (List.mem_cons_of_mem _ hc)
    unfold loopC
    cases hp : p d with
    | true =>
      simp only [e1, ht d List.mem_cons_self, hp, h d List.mem_cons_self hp, if_true, e2, ih, List.filter_cons_of_pos]
      rfl
    | false =>
      have : ¬ (p d = true) := by rw [hp]; exact Bool.false_ne_true
      simp only [e1, ht d List.mem_cons_self, hp, e2, ih, List.filter_cons_of_neg this]
      rfl
/-- items in pairs -/
inductive Two (S : D → D → Prop) : List D → List D → Prop
  | nil : Two S [] []
  | cons {a b : D} {l m : List D} : S a b → Two S l m → Two S (a :: l) (b :: m)
theorem Two.len {S : D → D → Prop} {l m : List D} (h : Two S l m) : l.length = m.length := by
  induction h with
  | nil => rfl
  | cons _ _ ih => rw [List.length_cons, List.length_cons, ih]
theorem loopC_all {g : AsT} {vs : List Nat} {fe : M D} (P : Nat → Env → Prop) (S : D → D → Prop) : ∀ (ds : List D) (k : Nat) (Γ : Env), P k Γ → (∀ i d Γ, ds[i]? = some d → P (k + i) Γ → ∃ Γ1 y Γ2, g d (wipeG Γ vs) = some Γ1 ∧ fe Γ1 = .ok y Γ2 ∧ S d y ∧ P (k + i + 1) (backG Γ vs Γ2)) →
    ∃ ys Γ', loopC g vs mYes fe ds Γ = .ok ys Γ' ∧ Two S ds ys ∧ P (k + ds.length) Γ'
  | [], k, Γ, h, _ => ⟨[], Γ, rfl, .nil, h⟩
  | d :: ds, k, Γ, h, hs => by
    obtain ⟨Γ1, y, Γ2, e1, e2, s, h2⟩ := hs 0 d Γ rfl h
    obtain ⟨ys, Γ', e3, t, h3⟩ := loopC_all P S ds (k + 1) (backG Γ vs Γ2) h2 fun i c Γ e p => by
      have := hs (i + 1) c Γ (by simpa using e) (by rw [show k + (i + 1) = k + 1 + i from by omega]; exact p)
      rw [show k + (i + 1) + 1 = k + 1 + i + 1 from by omega] at this
      exact this
    refine ⟨y :: ys, Γ', ?_, .cons s t, ?_⟩
    · unfold loopC
      simp only [e1, mYes, if_true, e2, e3]
      rfl
    · rw [List.length_cons, show k + (ds.length + 1) = k + 1 + ds.length from by omega]
      exact h3
/-! ### in, == -/
def strsD (l : List PySem.Str) : List D := l.map D.str
theorem in_strs {c : PySem.Str} {l : List PySem.Str} : inB (.str c) (.lst (strsD l)) = some (decide (c ∈ l)) := by
  have h : ∀ l : List PySem.Str, (strsD l).all flatD = true := fun l => by
    unfold strsD
    rw [List.all_map]
    exact List.all_eq_true.mpr fun _ _ => rfl
  have h2 : ∀ l : List PySem.Str, ((strsD l).any fun d => eqF d (.str c)) = decide (c ∈ l) := fun l => by
    induction l with
    | nil => rfl
    | cons x l ih =>
      show (eqF (.str x) (.str c) || (strsD l).any fun d => eqF d (.str c)) = _
      rw [ih]
      show ((x == c) || _) = _
      by_cases e : x = c
      · subst e; simp
      · have e' : ¬ c = x := fun z => e z.symm
        simp [e, e']
  show (if flatD (.str c) && (strsD l).all flatD then some ((strsD l).any fun d => eqF d (.str c)) else deepIn (.str c) (strsD l)) = _
  rw [h, h2]
  rfl
theorem inS_strs {c : PySem.Str} {l : List PySem.Str} : inS (.str c) (.lst (strsD l)) = some (.bl (decide (c ∈ l))) := by
  show (inB _ _).map D.bl = _
  rw [in_strs] <;> rfl
theorem notInS_strs {c : PySem.Str} {l : List PySem.Str} : notInS (.str c) (.lst (strsD l)) = some (.bl (!decide (c ∈ l))) := by
  show (inB _ _).map (fun b => D.bl (!b)) = _
  rw [in_strs] <;> rfl
end Dl
namespace Dl
end Dl
/-! DLW: plain: what laws share. -/
namespace Dl
abbrev S : Type := PySem.Str
/-! pens -/
def Pn (cs : List Int) (k : Int) (pen : D) : Prop := ∃ p q, pen = penD cs p q ∧ 0 ≤ p ∧ p ≤ k ∧ 0 ≤ q
theorem Pn.mono {cs : List Int} {k k' : Int} {pen : D} (h : Pn cs k pen) (hk : k ≤ k') : Pn cs k' pen := by
  obtain ⟨p, q, e, h0, h1, h2⟩ := h
  exact ⟨p, q, e, h0, by omega, h2⟩
theorem Pn.zero (cs : List Int) : Pn cs 0 (penD cs 0 0) := ⟨0, 0, rfl, by omega, by omega, by omega⟩
/-! ends -/
def isRet : OutS → Bool
  | .ret (.bl true) _ => true
  | _ => false
theorem sSeq_next {f g : MS} {Γ Γ1 : Env} (h : f Γ = .next Γ1) : sSeq f g Γ = g Γ1 := by
  unfold sSeq
  rw [h]
  rfl
theorem fn_true {np nl : Nat} {body : MS} {as : List D} {o : OutS} (hl : as.length = np) (h : body (as.map some ++ List.replicate nl none) = o) (ho : isRet o = true) : ∃ io, fnD false np nl body as = .ret (.bl true) io := by
  unfold fnD
  rw [if_pos hl, h]
  unfold isRet at ho
  split at ho
  · exact ⟨[], rfl⟩
  · cases ho
/-! truths -/
theorem bls_map (l : List Bool) : blsD (l.map .bl) = some l := by
  induction l with
  | nil => rfl
  | cons b l ih => rw [List.map_cons, blsD, ih]; rfl
theorem all_map (l : List Bool) : allD [.lst (l.map .bl)] = some (.bl (l.all id)) := by
  show Option.map (fun bs : List Bool => D.bl (bs.all id)) (blsD _) = _
  rw [bls_map]
  rfl
theorem any_map (l : List Bool) : anyD [.lst (l.map .bl)] = some (.bl (l.any id)) := by
  show Option.map (fun bs : List Bool => D.bl (bs.any id)) (blsD _) = _
  rw [bls_map]
  rfl
theorem toPs_bls : ∀ l : List Bool, toPs (l.map .bl) = some (l.map .bool)
  | [] => rfl
  | b :: l => by
    rw [List.map_cons, toPs, toPs_bls l]
    rfl
theorem shaped_lst {l : List PySem.PyData} (h1 : PySem.PyData.canLayAll0 l = true) (h2 : PySem.PyData.depthAll l ≤ 63) : PySem.SeqAt.shaped (.list l) = true := by
  unfold PySem.SeqAt.shaped
  rw [PySem.PyData.canLay0, h1, PySem.PyData.depth, Bool.true_and, decide_eq_true_eq]
  omega
theorem lay_bls : ∀ l : List Bool, PySem.PyData.canLayAll0 (l.map .bool) = true ∧ PySem.PyData.depthAll (l.map .bool) = 0
  | [] => ⟨rfl, rfl⟩
  | b :: l => by
    obtain ⟨h1, h2⟩ := lay_bls l
    refine ⟨?_, ?_⟩
    · rw [List.map_cons, PySem.PyData.canLayAll0, h1]
      rfl
    · rw [List.map_cons, PySem.PyData.depthAll, h2]
      rfl
theorem eqv_bls : ∀ l m : List Bool, PySem.PyData.eqvAll (l.map .bool) (m.map .bool) = decide (l = m)
  | [], [] => rfl
  | [], _ :: _ => rfl
  | _ :: _, [] => rfl
  | a :: l, b :: m => by
    rw [List.map_cons, List.map_cons, PySem.PyData.eqvAll, eqv_bls l m]
    by_cases h : l = m
    · subst h
      cases a <;> cases b <;> simp [PySem.PyData.eqv]
    · simp [h]
theorem deep_bls (l m : List Bool) : deepEq (.lst (l.map .bl)) (.lst (m.map .bl)) = some (decide (l = m)) := by
  unfold deepEq
  have s : ∀ l : List Bool, PySem.SeqAt.shaped (.list (l.map .bool)) = true := fun l => shaped_lst (lay_bls l).1 (by rw [(lay_bls l).2]; omega)
  simp only [toP, toPs_bls, Option.map_some, Option.bind_some, s, Bool.and_self, if_true]
  rw [PySem.PyData.eqv, eqv_bls]
theorem ne_bls (l m : List Bool) : neD (.lst (l.map .bl)) (.lst (m.map .bl)) = some (.bl (!decide (l = m))) := by
  unfold neD eqB
  simp only [scalEq, deep_bls, Option.map_some]
theorem eq_bls (l m : List Bool) : eqD (.lst (l.map .bl)) (.lst (m.map .bl)) = some (.bl (decide (l = m))) := by
  unfold eqD eqB
  simp only [scalEq, deep_bls, Option.map_some]
/-! a list against the empty one -/
theorem deep_nil {l : List D} {ps : List PySem.PyData} (e : toPs l = some ps) (h1 : PySem.PyData.canLayAll0 ps = true) (h2 : PySem.PyData.depthAll ps ≤ 63) : deepEq (.lst l) (.lst []) = some l.isEmpty := by
  have hl : ps.isEmpty = l.isEmpty := by
    cases l with
    | nil => cases e; rfl
    | cons d l =>
      obtain ⟨p, _, e2⟩ := Option.bind_eq_some_iff.mp (show (toP d).bind _ = _ from e)
      obtain ⟨q, _, e3⟩ := Option.map_eq_some_iff.mp e2
      rw [← e3]
      rfl
  unfold deepEq
  have s : PySem.SeqAt.shaped (.list []) = true := rfl
  simp only [toP, e, toPs, Option.map_some, Option.bind_some, shaped_lst h1 h2, s, Bool.and_self, if_true, ← hl]
  cases ps <;> rfl
theorem ne_nil' {l : List D} {ps : List PySem.PyData} (e : toPs l = some ps) (h1 : PySem.PyData.canLayAll0 ps = true) (h2 : PySem.PyData.depthAll ps ≤ 63) : neD (.lst l) (.lst []) = some (.bl (!l.isEmpty)) := by
  unfold neD eqB
  simp only [scalEq, deep_nil e h1 h2, Option.map_some]
theorem eq_nil' {l : List D} {ps : List PySem.PyData} (e : toPs l = some ps) (h1 : PySem.PyData.canLayAll0 ps = true) (h2 : PySem.PyData.depthAll ps ≤ 63) : eqD (.lst l) (.lst []) = some (.bl l.isEmpty) := by
  unfold eqD eqB
  simp only [scalEq, deep_nil e h1 h2, Option.map_some]
theorem toPs_txts : ∀ l : List PySem.Str, toPs (strsD l) = some (l.map .str)
  | [] => rfl
  | c :: l => by
    show (toP (.str c)).bind _ = _
    simp only [toP, Option.bind_some]
    rw [show (List.map D.str l) = strsD l from rfl, toPs_txts l]
    rfl
theorem lay_txts : ∀ l : List PySem.Str, (∀ c ∈ l, PySem.PyData.strOk c = true) → PySem.PyData.canLayAll0 (l.map .str) = true ∧ PySem.PyData.depthAll (l.map .str) = 0
  | [], _ => ⟨rfl, rfl⟩
  | c :: l, h => by
    obtain ⟨i1, i2⟩ := lay_txts l fun c hc => h c (List.mem_cons_of_mem _ hc)
    refine ⟨?_, ?_⟩
    · rw [List.map_cons, PySem.PyData.canLayAll0, i1, PySem.PyData.canLay0, h c List.mem_cons_self]
      rfl
    · rw [List.map_cons, PySem.PyData.depthAll, i2]
      rfl
theorem strs_of {ds : List D} (h : ∀ d ∈ ds, ∃ s : S, d = .str s ∧ PySem.PyData.strOk s = true) : ∃ l : List S, ds = strsD l ∧ ∀ c ∈ l, PySem.PyData.strOk c = true := by
  induction ds with
  | nil => exact ⟨[], rfl, fun _ h => nomatch h⟩
  | cons d ds ih =>
    obtain ⟨s, rfl, hs⟩ := h d List.mem_cons_self
    obtain ⟨l, rfl, hl⟩ := ih fun c hc => h c (List.mem_cons_of_mem _ hc)
    refine ⟨s :: l, rfl, fun c hc => ?_⟩
    rcases List.mem_cons.mp hc with rfl | hc
    · exact hs
    · exact hl c hc
theorem eq_nil_strs {ds : List D} (h : ∀ d ∈ ds, ∃ s : S, d = .str s ∧ PySem.PyData.strOk s = true) : eqD (.lst ds) (.lst []) = some (.bl ds.isEmpty) := by
  obtain ⟨l, rfl, hl⟩ := strs_of h
  have := lay_txts l hl
  exact eq_nil' (toPs_txts l) this.1 (by rw [this.2]; omega)
structure SOk (cols : List S) : Prop where
  ok : ∀ c ∈ cols, PySem.PyData.strOk c = true
theorem ne_strs {cols : List S} (ok : SOk cols) : neD (.lst (strsD cols)) (.lst []) = some (.bl (!cols.isEmpty)) := by
  have := lay_txts cols ok.ok
  rw [ne_nil' (toPs_txts cols) this.1 (by rw [this.2]; omega)]
  cases cols <;> rfl
theorem in_tup_strs {c : PySem.Str} {l : List PySem.Str} : inA (.str c) (.tup (strsD l)) = some (.bl (decide (c ∈ l))) := by
  have h := in_strs (c := c) (l := l)
  have e : inB (.str c) (.tup (strsD l)) = inB (.str c) (.lst (strsD l)) := by
    have h : (strsD l).all flatD = true := by
      unfold strsD
      rw [List.all_map]
      exact List.all_eq_true.mpr fun _ _ => rfl
    unfold inB
    simp only [h, flatD, Bool.and_self, if_true]
  show (inB _ _).map D.bl = _
  rw [e, h]
  rfl
theorem strs_len (l : List PySem.Str) : (strsD l).length = l.length := by unfold strsD; rw [List.length_map]
/-- the sign at a place of a text -/
theorem sign_at {z : PySem.Str} {i : Int} (h0 : 0 ≤ i) (h1 : i < z.length) (hz : z.length ≤ 16777216) : ∃ c, c ∈ z.cps.toList ∧ ixA (.str z) (.int i) = some (.str ⟨#[c]⟩) := by
  have hl : i.toNat < z.cps.toList.length := by rw [Array.length_toList]; show i.toNat < z.length; omega
  refine ⟨z.cps.toList[i.toNat], List.getElem_mem hl, ?_⟩
  have e : L2.atI z.cps.toList i = some z.cps.toList[i.toNat] := by
    unfold L2.atI L2.ixN
    rw [if_pos h0, if_pos (by omega)]
    exact List.getElem?_eq_getElem hl
  show (if z.length ≤ PySem.sizeLine then (L2.atI z.cps.toList i).map fun c => D.str ⟨#[c]⟩ else none) = _
  rw [if_pos (by rw [PySem.sizeLine_eq]; exact hz), e]
  rfl
end Dl
/-! DLX: plain: tables. -/
namespace Dl
theorem valK_cons (a k : L2.Key) (d : D) (l : List (L2.Key × D)) : valK ((a, d) :: l) k = if a = k then some d else valK l k := by
  unfold valK
  rw [List.find?_cons]
  by_cases h : a = k
  · simp [h]
  · simp [h]
theorem mulD_rep {l : List D} {n : Nat} (h : l.length * n ≤ 16777216) (h2 : (n : Int) < 9223372036854775808) : mulD (.lst l) (.int (n : Int)) = some (.lst (List.replicate n l).flatten) := by
  simp only [mulD, Int.toNat_natCast]
  rw [if_pos ⟨by omega, by omega, by rw [PySem.sizeLine_eq]; exact h⟩]
theorem valK_nil (k : L2.Key) : valK [] k = none := rfl
/-! a table of drawn values -/
theorem putD_all {P : D → Prop} {acc : List (L2.Key × D)} {q : L2.Key} {v : D} (h : ∀ p ∈ acc, P p.2) (hv : P v) : ∀ p ∈ putD acc q v, P p.2 := by
  unfold putD
  split
  · intro p hp
    obtain ⟨x, hx, rfl⟩ := List.mem_map.mp hp
    split
    · exact hv
    · exact h x hx
  · intro p hp
    rcases List.mem_append.mp hp with hp | hp
    · exact h p hp
    · rw [List.mem_singleton.mp hp]; exact hv
theorem putD_any {acc : List (L2.Key × D)} {q c : L2.Key} {v : D} : ((putD acc q v).any fun p => decide (p.1 = c)) = (decide (q = c) || acc.any fun p => decide (p.1 = c)) := by
  unfold putD
  split
  · rename_i h
    have e : ((acc.map fun p => if p.1 = q then (p.1, v) else p).any fun p => decide (p.1 = c)) = acc.any fun p => decide (p.1 = c) := by
      rw [List.any_map]
      congr 1
      funext p
      show decide ((if p.1 = q then (p.1, v) else p).1 = c) = _
      split <;> rfl
    rw [e]
    by_cases hq : q = c
    · subst hq
      rw [h]; simp
    · simp [hq]
  · rw [List.any_append, Bool.or_comm]
    simp
theorem valK_any {l : List (L2.Key × D)} {c : L2.Key} {P : D → Prop} (h : ∀ p ∈ l, P p.2) (a : (l.any fun p => decide (p.1 = c)) = true) : ∃ v, valK l c = some v ∧ P v := by
  unfold valK
  cases e : l.find? fun p => decide (p.1 = c) with
  | none =>
    rw [List.find?_eq_none] at e
    obtain ⟨x, hx, hx2⟩ := List.any_eq_true.mp a
    exact (e x hx hx2).elim
  | some p => exact ⟨p.2, rfl, h p (List.mem_of_find?_eq_some e)⟩
theorem table {P : D → Prop} : ∀ {l : List S} {ys : List D}, Two (fun a y => ∃ v, y = .tup [a, v] ∧ P v) (strsD l) ys → ∃ kds, kvD ys = some kds ∧ ∀ acc : List (L2.Key × D), (∀ p ∈ acc, P p.2) →
    (∀ p ∈ mergeD acc kds, P p.2) ∧ ∀ c, c ∈ l ∨ (acc.any fun p => decide (p.1 = .inr c)) = true → ((mergeD acc kds).any fun p => decide (p.1 = .inr c)) = true
  | [], _, .nil => ⟨[], rfl, fun acc h => ⟨h, fun c hc => hc.elim (fun h => nomatch h) fun h => h⟩⟩
  | a :: l, _, .cons h t => by
    obtain ⟨v, rfl, hv⟩ := h
    obtain ⟨kds, e, hk⟩ := table t
    refine ⟨(.inr a, v) :: kds, ?_, fun acc hacc => ?_⟩
    · show (keyD (.str a)).bind _ = _
      simp only [keyD, Option.bind_some, e, Option.map_some]
    · obtain ⟨h1, h2⟩ := hk (putD acc (.inr a) v) (putD_all hacc hv)
      refine ⟨h1, fun c hc => h2 c ?_⟩
      rw [putD_any]
      rcases hc with hc | hc
      · rcases List.mem_cons.mp hc with rfl | hc
        · exact .inr (by simp)
        · exact .inl hc
      · exact .inr (by rw [hc]; simp)
theorem table_ok {P : D → Prop} {l : List S} {ys : List D} (h : Two (fun a y => ∃ v, y = .tup [a, v] ∧ P v) (strsD l) ys) : ∃ t, dictD [.lst ys] = some (.dct t) ∧ ∀ c ∈ l, ∃ v, valK t (.inr c) = some v ∧ P v := by
  obtain ⟨kds, e, hk⟩ := table h
  obtain ⟨h1, h2⟩ := hk [] fun _ h => nomatch h
  refine ⟨mergeD [] kds, ?_, fun c hc => valK_any h1 (h2 c (.inl hc))⟩
  show (kvD ys).map _ = _
  rw [e]; rfl
end Dl
/-! DLY: plain: repr and == of data. -/
namespace Dl
open PySem PySem.Spec PyProof.Rows L2
mutual
/-- how long its repr is at most -/
def rwt : D → Nat
  | .non => 4
  | .bl _ => 5
  | .int _ => 1921
  | .str x => 10 * x.length + 2
  | .tup l => 3 + rwts l
  | .lst l => 2 + rwts l
  | _ => 0
def rwts : List D → Nat
  | [] => 0
  | d :: l => rwt d + 2 + rwts l
end
mutual
def rok : D → Bool
  | .non | .bl _ => true
  | .int i => decide (i.natAbs.log2 < 1920)
  | .str x => PyData.strOk x
  | .tup l | .lst l => roks l
  | _ => false
def roks : List D → Bool
  | [] => true
  | d :: l => rok d && roks l
end
mutual
def rdp : D → Nat
  | .tup l | .lst l => rdps l + 1
  | _ => 0
def rdps : List D → Nat
  | [] => 0
  | d :: l => max (rdp d) (rdps l)
end
theorem textFrom_le : ∀ (ts : List PySem.Str) (k : Nat) (acc : PySem.Str), (textFrom k acc ts).length ≤ acc.length + (ts.map fun t => t.length + 2).sum
  | [], _, acc => by simp [textFrom]
  | t :: ts, k, acc => by
    have h := textFrom_le ts (k + 1) (acc ++ (if k > 0 then ", " else "" : String) ++ t)
    have e : (acc ++ (if k > 0 then ", " else "" : String) ++ t).length ≤ acc.length + 2 + t.length := by
      rw [strLen_append, strLen_append]
      split
      · exact Nat.le_refl _
      · show acc.length + 0 + t.length ≤ _
        omega
    rw [List.map_cons, List.sum_cons]
    show (textFrom (k + 1) _ ts).length ≤ _
    omega
theorem piled_sum : ∀ ts : List PySem.Str, piled ts = (ts.map fun t => t.length + 2).sum
  | [] => rfl
  | t :: ts => by rw [piled_cons, piled_sum ts, List.map_cons, List.sum_cons]
theorem tupleText_le (ts : List PySem.Str) : (tupleText ts).length ≤ 3 + (ts.map fun t => t.length + 2).sum := by
  unfold tupleText
  rw [strLen_append, strLen_append]
  have e : ((if ts.length == 1 then ",)" else ")" : String) : PySem.Str).length ≤ 2 := by split <;> decide +kernel
  have e1 : (("(" : String) : PySem.Str).length = 1 := rfl
  by_cases h : ts = []
  · subst h
    have e2 : (Str.join ", " []).length = 0 := rfl
    rw [e2, e1]
    omega
  · have := join_length_add ts h
    rw [piled_sum] at this
    rw [e1]
    omega
theorem listText_le (ts : List PySem.Str) : (listText ts).length ≤ 2 + (ts.map fun t => t.length + 2).sum := by
  unfold listText
  rw [strLen_append]
  have := textFrom_le ts 0 "["
  have e1 : (("[" : String) : PySem.Str).length = 1 := rfl
  have e2 : (("]" : String) : PySem.Str).length = 1 := rfl
  omega
mutual
theorem rok.data : ∀ {d : D}, rok d = true → ∃ p, toP d = some p ∧ p.showable = true ∧ p.hasDict = false ∧ p.depth = rdp d ∧ p.canLay0 = true ∧ p.shown.length ≤ rwt d
  | .non, _ => ⟨.none, rfl, rfl, rfl, rfl, rfl, by decide +kernel⟩
  | .bl b, _ => ⟨.bool b, rfl, rfl, rfl, rfl, rfl, by cases b <;> decide +kernel⟩
  | .int i, h => ⟨.int i, rfl, h, rfl, rfl, rfl, int_text_len_1921 (of_decide_eq_true h)⟩
  | .str x, h => ⟨.str x, rfl, rfl, rfl, rfl, h, StrLaws.reprText_len x fun c hc => by
      have h : PyData.strOk x = true := h
      have h2 : (x.cps.all (· < 0x110000)) = true := h
      rw [Array.all_eq_true'] at h2
      have := of_decide_eq_true (h2 c (by simpa using hc))
      omega⟩
  | .tup l, h => by
    obtain ⟨ps, h1, h2, h3, h4, h5, h6⟩ := roks.data (l := l) h
    refine ⟨.tuple ps, by rw [toP, h1]; rfl, h2, h3, ?_, h5, ?_⟩
    · rw [PyData.depth, h4]; rfl
    · have := tupleText_le (PyData.shownAll ps)
      show (tupleText (PyData.shownAll ps)).length ≤ 3 + rwts l
      omega
  | .lst l, h => by
    obtain ⟨ps, h1, h2, h3, h4, h5, h6⟩ := roks.data (l := l) h
    refine ⟨.list ps, by rw [toP, h1]; rfl, h2, h3, ?_, h5, ?_⟩
    · rw [PyData.depth, h4]; rfl
    · have := listText_le (PyData.shownAll ps)
      show (listText (PyData.shownAll ps)).length ≤ 2 + rwts l
      omega
theorem roks.data : ∀ {l : List D}, roks l = true → ∃ ps, toPs l = some ps ∧ PyData.showableAll ps = true ∧ PyData.hasDictAll ps = false ∧ PyData.depthAll ps = rdps l ∧ PyData.canLayAll0 ps = true ∧ ((PyData.shownAll ps).map fun t => t.length + 2).sum ≤ rwts l
  | [], _ => ⟨[], rfl, rfl, rfl, rfl, rfl, Nat.le_refl _⟩
  | d :: l, h => by
    have h : (rok d && roks l) = true := h
    rw [Bool.and_eq_true] at h
    obtain ⟨p, a1, a2, a3, a4, a5, a6⟩ := rok.data h.1
    obtain ⟨ps, b1, b2, b3, b4, b5, b6⟩ := roks.data h.2
    refine ⟨p :: ps, by rw [toPs, a1, Option.bind_some, b1]; rfl, by rw [PyData.showableAll, a2, b2]; rfl, by rw [PyData.hasDictAll, a3, b3]; rfl, by rw [PyData.depthAll, a4, b4]; rfl, by rw [PyData.canLayAll0, a5, b5]; rfl, ?_⟩
    rw [PyData.shownAll, List.map_cons, List.sum_cons]
    show _ ≤ rwt d + 2 + rwts l
    omega
end
theorem repr_ex {d : D} (h : rok d = true) (h1 : rdp d ≤ 60) (h2 : rwt d ≤ 16777216) : ∃ x, reprD [d] = some (.str x) := by
  obtain ⟨p, e1, e2, e3, e4, e5, e6⟩ := rok.data h
  refine ⟨p.shown, ?_⟩
  show (toP d).bind _ = _
  rw [e1, Option.bind_some, if_pos ⟨e2, e3, by omega, by omega⟩]
theorem ne_str (x : PySem.Str) : neD (.str x) (.str x) = some (.bl false) := by simp [neD, eqB, scalEq]
theorem eq_str (x : PySem.Str) : eqD (.str x) (.str x) = some (.bl true) := by simp [eqD, eqB, scalEq]
theorem deep_self {d : D} (h : rok d = true) (h1 : rdp d ≤ 60) : deepEq d d = some true := by
  obtain ⟨p, e1, e2, e3, e4, e5, e6⟩ := rok.data h
  have s : SeqAt.shaped p = true := by
    unfold SeqAt.shaped
    rw [e5, e4, Bool.true_and, decide_eq_true_eq]
    omega
  unfold deepEq
  simp only [e1, Option.bind_some, s, Bool.and_self, if_true, SeqAt.eqv_refl p e5]
theorem eqB_self {d : D} (h : rok d = true) (h1 : rdp d ≤ 60) : eqB d d = some true := by
  unfold eqB
  have e := deep_self h h1
  cases d <;> first | (simp [scalEq, e]; done) | simp [scalEq]
theorem ne_self {d : D} (h : rok d = true) (h1 : rdp d ≤ 60) : neD d d = some (.bl false) := by
  unfold neD
  rw [eqB_self h h1]
  rfl
theorem eq_self {d : D} (h : rok d = true) (h1 : rdp d ≤ 60) : eqD d d = some (.bl true) := by
  unfold eqD
  rw [eqB_self h h1]
  rfl
theorem roks_strs {l : List PySem.Str} (h : ∀ c ∈ l, PyData.strOk c = true) : roks (strsD l) = true := by
  induction l with
  | nil => rfl
  | cons x l ih =>
    show (rok (.str x) && roks (strsD l)) = true
    rw [ih fun c hc => h c (List.mem_cons_of_mem _ hc), Bool.and_true]
    exact h x List.mem_cons_self
theorem rdps_strs : ∀ l : List PySem.Str, rdps (strsD l) = 0
  | [] => rfl
  | x :: l => by
    show max (rdp (.str x)) (rdps (strsD l)) = 0
    rw [rdps_strs l]
    rfl
/-- a list against the empty one -/
theorem ne_empty {l : List D} (h : roks l = true) (h1 : rdps l ≤ 60) : neD (.lst l) (.lst []) = some (.bl (!l.isEmpty)) := by
  obtain ⟨ps, e1, _, _, e4, e5, _⟩ := roks.data h
  exact ne_nil' e1 e5 (by omega)
theorem eq_empty {l : List D} (h : roks l = true) (h1 : rdps l ≤ 60) : eqD (.lst l) (.lst []) = some (.bl l.isEmpty) := by
  obtain ⟨ps, e1, _, _, e4, e5, _⟩ := roks.data h
  exact eq_nil' e1 e5 (by omega)
end Dl
set_option maxHeartbeats 0
namespace Lw
open PySem PySem.Spec PyProof.Rows L2 Dl
def top (i : Nat) : Stmt := PySem.Challenge.pw_neverdearer_k04_names_and_what_stands_in.main.body.getD i (.Pass ⟨0, 0, 0, 0⟩)
abbrev c_OF : D := .str "of"
abbrev c_NONE : D := .str "none"
abbrev c_PLUS : D := .str "plus"
abbrev c_BOTH : D := .str "both"
abbrev c_REST : D := .str "rest"
abbrev c_TIMES : D := .str "times"
abbrev c_WHERE : D := .str "where"
abbrev c_UNLESS : D := .str "unless"
abbrev c_LESS : D := .str "less"
abbrev c_MOST : D := .str "most"
abbrev c_NULL : D := .str "null"
abbrev c_NOT : D := .str "not"
abbrev c_OR : D := .str "or"
abbrev c_PAIRS : D := .tup [.str "plus", .str "both", .str "either", .str "rest"]
abbrev c_COMPARED : D := .tup [.str "less", .str "most", .str "equal"]
def N0 : List Str := ["test", "row", "word", "value", "one"]
def ps0 : List Str := ["test", "row"]
def N1 : List Str := ["word", "truths", "sure"]
def ps1 : List Str := ["word", "truths"]
def N2 : List Str := ["question", "numbers", "row", "word", "one", "other"]
def ps2 : List Str := ["question", "numbers", "row"]
def N3 : List Str := ["question", "found", "line", "one"]
def ps3 : List Str := ["question"]
def N4 : List Str := ["question", "known", "word", "one"]
def ps4 : List Str := ["question", "known"]
def N5 : List Str := ["script"]
def ps5 : List Str := ["script"]
def N6 : List Str := ["pen", "many", "at", "cell", "mixed", "digit", "great"]
def ps6 : List Str := ["pen", "many"]
def N7 : List Str := ["pen", "some"]
def ps7 : List Str := ["pen", "some"]
def N8 : List Str := ["pen", "many", "letters", "ends", "start", "hop", "at"]
def ps8 : List Str := ["pen", "many"]
def N9 : List Str := ["pen", "columns", "word", "column"]
def ps9 : List Str := ["pen", "columns"]
def N10 : List Str := ["pen", "columns", "deep", "way"]
def ps10 : List Str := ["pen", "columns", "deep"]
def N11 : List Str := ["pen", "tables", "columns", "deep", "way", "one"]
def ps11 : List Str := ["pen", "tables", "columns", "deep"]
def N12 : List Str := ["thing", "part"]
def ps12 : List Str := ["thing"]
def N13 : List Str := ["test", "row", "truths", "ranks", "value", "part", "truth"]
def ps13 : List Str := ["test", "row"]
def N14 : List Str := ["question", "counts", "row", "word", "one", "other", "is_so", "low", "high"]
def ps14 : List Str := ["question", "counts", "row"]
def N15 : List Str := ["question", "part"]
def ps15 : List Str := ["question"]
def N16 : List Str := ["question", "known", "part"]
def ps16 : List Str := ["question", "known"]
def N17 : List Str := ["script", "pen", "turn", "names", "question", "known", "told", "counts", "row", "more", "tables", "steps", "columns", "step", "name", "column"]
def ps17 : List Str := ["script"]
abbrev kg0 : List Nat := [0]
abbrev kg1 : List Nat := [1, 0]
def bd0 (cf : Nat → List D → OutF) : MS :=
  (sSeq (sSetX 2 [] (mBin ixA (mVal 0) (mC (.int 0))))
  (sSeq (sIf (mTB (mBin eqD (mVal 2) (mC c_NULL)))
  (sRetX [] (mBin isD (mBin ixA (mVal 1) (mBin ixA (mVal 0) (mC (.int 1)))) (mC .non)))
  sNil)
  (sSeq (sIf (mTB (mBin inA (mVal 2) (mC c_COMPARED)))
  (sSeq (sSetX 3 [] (mBin ixA (mVal 1) (mBin ixA (mVal 0) (mC (.int 1)))))
  (sSeq (sIf (mTB (mBin isD (mVal 3) (mC .non)))
  (sRetX [] (mC .non))
  sNil)
  (sRetX [] (mIf (mTB (mBin eqD (mVal 2) (mC c_LESS))) (mBin ltD (mVal 3) (mBin ixA (mVal 0) (mC (.int 2)))) (mIf (mTB (mBin eqD (mVal 2) (mC c_MOST))) (mBin leD (mVal 3) (mBin ixA (mVal 0) (mC (.int 2)))) (mBin eqD (mVal 3) (mBin ixA (mVal 0) (mC (.int 2)))))))))
  sNil)
  (sRetX [] (mCall (cf 1) (mCons (mVal 2) (mCons (mStrip (mLcX [] (mIter anyOf (mSl (mVal 0) (mPart (mC (.int 1))) mNoPart)) (aName 4) [4] mYes (mStrip (mCall (cf 0) (mCons (mVal 4) (mCons (mVal 1) mNil)))))) mNil)))))))
def bd1 (cf : Nat → List D → OutF) : MS :=
  (sSeq (sIf (mTB (mBin eqD (mVal 0) (mC c_NOT)))
  (sRetX [] (mIf (mTB (mBin isD (mBin ixA (mVal 1) (mC (.int 0))) (mC .non))) (mC .non) (mNotV (mBin ixA (mVal 1) (mC (.int 0))))))
  sNil)
  (sSeq (sSetX 2 [] (mBin eqD (mVal 0) (mC c_OR)))
  (sSeq (sIf (mTB (mBin inA (mVal 2) (mVal 1)))
  (sRetX [] (mVal 2))
  sNil)
  (sRetX [] (mIf (mTB (mBin inA (mC .non) (mVal 1))) (mC .non) (mNotV (mVal 2)))))))
def bd2 (cf : Nat → List D → OutF) : MS :=
  (sSeq (sSetX 3 [] (mBin ixA (mVal 0) (mC (.int 0))))
  (sSeq (sIf (mTB (mBin eqD (mVal 3) (mC c_NONE)))
  (sRetX [] (mC (.int 0)))
  sNil)
  (sSeq (sIf (mTB (mBin eqD (mVal 3) (mC c_OF)))
  (sRetX [] (mBin ixA (mVal 1) (mBin ixA (mVal 0) (mC (.int 1)))))
  sNil)
  (sSeq (sSetX 4 [] (mStrip (mCall (cf 2) (mCons (mBin ixA (mVal 0) (mC (.int 1))) (mCons (mVal 1) (mCons (mVal 2) mNil))))))
  (sSeq (sIf (mTB (mBin eqD (mVal 3) (mC c_TIMES)))
  (sRetX [] (mBin mulD (mBin ixA (mVal 0) (mC (.int 2))) (mVal 4)))
  sNil)
  (sSeq (sIf (mTB (mBin inA (mVal 3) (mTup (mCons (mC c_WHERE) (mCons (mC c_UNLESS) mNil)))))
  (sRetX [] (mIf (mTB (mBin eqD (mBin isD (mStrip (mCall (cf 0) (mCons (mBin ixA (mVal 0) (mC (.int 2))) (mCons (mVal 2) mNil)))) (mC (.bl true))) (mBin eqD (mVal 3) (mC c_WHERE)))) (mVal 4) (mC (.int 0))))
  sNil)
  (sSeq (sSetX 5 [] (mStrip (mCall (cf 2) (mCons (mBin ixA (mVal 0) (mC (.int 2))) (mCons (mVal 1) (mCons (mVal 2) mNil))))))
  (sSeq (sIf (mTB (mBin eqD (mVal 3) (mC c_PLUS)))
  (sRetX [] (mBin addD (mVal 4) (mVal 5)))
  sNil)
  (sSeq (sIf (mTB (mBin eqD (mVal 3) (mC c_REST)))
  (sRetX [] (mCB maxD (mCons (mC (.int 0)) (mCons (mBin subD (mVal 4) (mVal 5)) mNil))))
  sNil)
  (sRetX [] (mIf (mTB (mBin eqD (mVal 3) (mC c_BOTH))) (mCB minD (mCons (mVal 4) (mCons (mVal 5) mNil))) (mCB maxD (mCons (mVal 4) (mCons (mVal 5) mNil))))))))))))))
def bd3 (cf : Nat → List D → OutF) : MS :=
  (sSeq (sParX [1, 2] (mCons (mC (.own (.dct []))) (mCons (mOwnL (mCons (mVal 0) mNil)) mNil)))
  (sSeq (sWhile (fun _ => 1000000) (mTB (mBin neD (mOwn 2) (mStrip (mOwnL mNil))))
  (sSeq (sSetX 3 [] (mPop 2))
  (sIf (mTB (mBin eqD (mBin ixA (mVal 3) (mC (.int 0))) (mC c_OF)))
  (sPutK 1 [] (mC (.bl true)) (mBin ixA (mVal 3) (mC (.int 1))))
  (sIf (mTB (mBin neD (mBin ixA (mVal 3) (mC (.int 0))) (mC c_NONE)))
  (sSeq (sDrop (mMth 2 [] effAppend (mCons (mBin ixA (mVal 3) (mC (.int 1))) mNil)))
  (sIf (mTB (mBin inA (mBin ixA (mVal 3) (mC (.int 0))) (mC c_PAIRS)))
  (sDrop (mMth 2 [] effAppend (mCons (mBin ixA (mVal 3) (mC (.int 2))) mNil)))
  sNil))
  sNil))))
  (sRetX [1] (mCB tupleD (mCons (mCB sortedAD (mCons (mOwn 1) mNil)) mNil)))))
def bd4 (cf : Nat → List D → OutF) : MS :=
  (sSeq (sSetX 2 [] (mBin ixA (mVal 0) (mC (.int 0))))
  (sSeq (sIf (mTB (mBin eqD (mVal 2) (mC c_OF)))
  (sRetX [] (mGet2' (mVal 1) (mBin ixA (mVal 0) (mC (.int 1))) (mVal 0)))
  sNil)
  (sSeq (sIf (mTB (mBin eqD (mVal 2) (mC c_NONE)))
  (sRetX [] (mVal 0))
  sNil)
  (sSeq (sSetX 3 [] (mStrip (mCall (cf 4) (mCons (mBin ixA (mVal 0) (mC (.int 1))) (mCons (mVal 1) mNil)))))
  (sRetX [] (mIf (mTB (mBin inA (mVal 2) (mC c_PAIRS))) (mTup (mCons (mVal 2) (mCons (mVal 3) (mCons (mStrip (mCall (cf 4) (mCons (mBin ixA (mVal 0) (mC (.int 2))) (mCons (mVal 1) mNil)))) mNil)))) (mTup (mCons (mVal 2) (mCons (mVal 3) (mCons (mBin ixA (mVal 0) (mC (.int 2))) mNil))))))))))
def bd5 (cf : Nat → List D → OutF) : MS :=
  (sRetX [] (mOwnL (mCons (mStrip (mCW listW (mCons (mSl (mVal 0) mNoPart (mPart (mC (.int 63)))) mNil))) (mCons (mC (.int 0)) (mCons (mC (.int 0)) mNil)))))
def bd6 (cf : Nat → List D → OutF) : MS :=
  (sSeq (sIf (mTB (mBin ltD (mVal 1) (mC (.int 2))))
  (sRetX [] (mC (.int 0)))
  sNil)
  (sSeq (sIf (mTB (mBin gtD (mOwnIxA 0 (mC (.int 2))) (mC (.int 0))))
  (sSeq (sSetX 5 [] (mBin modD (mCB intOf (mCons (mOwnIxA 0 (mC (.int 2))) mNil)) (mVal 1)))
  (sSeq (sPut 0 [] (mBin fdvD (mCB intOf (mCons (mOwnIxA 0 (mC (.int 2))) mNil)) (mVal 1)) (mC (.int 2)))
  (sRetX [] (mVal 5))))
  sNil)
  (sSeq (sSetX 2 [] (mOwnIxA 0 (mC (.int 1))))
  (sSeq (sPut 0 [] (mBin addD (mVal 2) (mC (.int 1))) (mC (.int 1)))
  (sSeq (sSetX 3 [] (mBin addD (mBin mulD (mC (.int 71147)) (mVal 2)) (mC (.int 9105))))
  (sSeq (sIf (mTB (mBin neD (mOwnIxA 0 (mC (.int 0))) (mStrip (mOwnL mNil))))
  (sSetX 3 [] (mBin ixA (mOwnIxA 0 (mC (.int 0))) (mBin modD (mCB intOf (mCons (mVal 2) mNil)) (mCB lenA (mCons (mOwnIxA 0 (mC (.int 0))) mNil)))))
  sNil)
  (sSeq (sIf (mAnd (mTB (mBin ltD (mVal 2) (mCB lenA (mCons (mOwnIxA 0 (mC (.int 0))) mNil)))) (mTB (mBin geD (mCB absD (mCons (mVal 3) mNil)) (mBin powD (mC (.int 10)) (mC (.int 18))))))
  (sSeq (sSetX 6 [] (mBin addD (mBin mulD (mC (.int 2)) (mBin subD (mCB absD (mCons (mVal 3) mNil)) (mBin powD (mC (.int 10)) (mC (.int 18))))) (mCB intOf (mCons (mBin ltD (mVal 3) (mC (.int 0))) mNil))))
  (sSeq (sPut 0 [] (mBin fdvD (mCB intOf (mCons (mVal 6) mNil)) (mVal 1)) (mC (.int 2)))
  (sRetX [] (mBin modD (mCB intOf (mCons (mVal 6) mNil)) (mVal 1)))))
  sNil)
  (sSeq (sSetX 4 [] (mBin modD (mCB intOf (mCons (mBin powD (mBin addD (mBin addD (mBin modD (mCB intOf (mCons (mVal 3) mNil)) (mC (.int 2147483549))) (mBin mulD (mC (.int 33245)) (mVal 2))) (mC (.int 9105))) (mC (.int 3))) mNil)) (mC (.int 2147483629))))
  (sSeq (sSetX 4 [] (mBin modD (mCB intOf (mCons (mBin powD (mBin addD (mBin addD (mBin mulD (mVal 4) (mBin addD (mBin mulD (mC (.int 2)) (mVal 2)) (mC (.int 6189)))) (mBin mulD (mBin mulD (mC (.int 71147)) (mVal 2)) (mVal 2))) (mC (.int 33245))) (mC (.int 5))) mNil)) (mC (.int 2147483563))))
  (sRetX [] (mBin modD (mCB intOf (mCons (mBin fdvD (mVal 4) (mC (.int 16))) mNil)) (mVal 1))))))))))))
def bd7 (cf : Nat → List D → OutF) : MS :=
  (sRetX [] (mBin ixA (mVal 1) (mStrip (mCallO 0 [] (cf 6) (mCons (mCB lenA (mCons (mVal 1) mNil)) mNil)))))
def bd8 (cf : Nat → List D → OutF) : MS :=
  (sSeq (sSetX 2 [] (mC (.str "abcdefghijklmnopqrstuvwxyz")))
  (sSeq (sAsg [] (mTup (mCons (mStrip (mCallO 0 [] (cf 6) (mCons (mC (.int 26)) mNil))) (mCons (mStrip (mCallO 0 [] (cf 7) (mCons (mStrip (mOwnL (mCons (mC (.int 1)) (mCons (mC (.int 3)) (mCons (mC (.int 5)) (mCons (mC (.int 7)) (mCons (mC (.int 9)) (mCons (mC (.int 11)) mNil)))))))) mNil))) mNil))) (aTup 2 (aCons (aName 4) (aCons (aName 5) aNil))))
  (sSeq (sSetX 3 [] (mStrip (mCallO 0 [] (cf 7) (mCons (mStrip (mOwnL (mCons (mC (.str "")) (mCons (mC (.str "")) (mCons (mC (.str "b")) (mCons (mC (.str "zzzzzzz")) mNil)))))) mNil))))
  (sRetX [] (mLcX [] (mRange1 (mCons (mVal 1) mNil)) (aName 6) [6] mYes (mBin addD (mBin ixA (mVal 2) (mBin modD (mCB intOf (mCons (mBin addD (mVal 4) (mBin mulD (mVal 5) (mVal 6))) mNil)) (mC (.int 26)))) (mVal 3)))))))
def bd9 (cf : Nat → List D → OutF) : MS :=
  (sSeq (sPar 2 3 [] (mCons (mStrip (mCallO 0 [] (cf 7) (mCons (mStrip (mOwnL (mCons (mC (.str "less")) (mCons (mC (.str "most")) (mCons (mC (.str "equal")) (mCons (mC (.str "null")) mNil)))))) mNil))) (mCons (mStrip (mCallO 0 [] (cf 7) (mCons (mVal 1) mNil))) mNil)))
  (sRetX [] (mIf (mTB (mBin eqD (mVal 2) (mC (.str "null")))) (mTup (mCons (mVal 2) (mCons (mVal 3) mNil))) (mTup (mCons (mVal 2) (mCons (mVal 3) (mCons (mStrip (mCallO 0 [] (cf 7) (mCons (mStrip (mOwnL (mCons (mC (.int 0)) (mCons (mC (.int 1)) (mCons (mC (.int 2)) (mCons (mC (.int 5)) (mCons (mUn negD (mC (.int 3))) (mCons (mBin powD (mC (.int 10)) (mC (.int 20))) mNil)))))))) mNil))) mNil)))))))
def bd10 (cf : Nat → List D → OutF) : MS :=
  (sSeq (sSetX 3 [] (mStrip (mCallO 0 [] (cf 6) (mCons (mC (.int 6)) mNil))))
  (sSeq (sIf (mOr (mTB (mBin eqD (mVal 2) (mC (.int 0)))) (mTB (mBin ltD (mVal 3) (mC (.int 3)))))
  (sRetX [] (mCallO 0 [] (cf 9) (mCons (mVal 1) mNil)))
  sNil)
  (sSeq (sIf (mTB (mBin eqD (mVal 3) (mC (.int 3))))
  (sRetX [] (mTup (mCons (mC (.str "not")) (mCons (mStrip (mCallO 0 [] (cf 10) (mCons (mVal 1) (mCons (mBin subD (mVal 2) (mC (.int 1))) mNil)))) mNil))))
  sNil)
  (sRetX [] (mTup (mCons (mStrip (mCallO 0 [] (cf 7) (mCons (mStrip (mOwnL (mCons (mC (.str "and")) (mCons (mC (.str "or")) mNil)))) mNil))) (mCons (mStrip (mCallO 0 [] (cf 10) (mCons (mVal 1) (mCons (mBin subD (mVal 2) (mC (.int 1))) mNil)))) (mCons (mStrip (mCallO 0 [] (cf 10) (mCons (mVal 1) (mCons (mBin subD (mVal 2) (mC (.int 1))) mNil)))) mNil))))))))
def bd11 (cf : Nat → List D → OutF) : MS :=
  (sSeq (sSetX 4 [] (mStrip (mCallO 0 [] (cf 6) (mCons (mC (.int 9)) mNil))))
  (sSeq (sIf (mOr (mTB (mBin eqD (mVal 3) (mC (.int 0)))) (mTB (mBin ltD (mVal 4) (mC (.int 2)))))
  (sRetX [] (mIf (mTB (mBin eqD (mStrip (mCallO 0 [] (cf 6) (mCons (mC (.int 12)) mNil))) (mC (.int 0)))) (mTup (mCons (mC (.str "none")) mNil)) (mTup (mCons (mC (.str "of")) (mCons (mStrip (mCallO 0 [] (cf 7) (mCons (mVal 1) mNil))) mNil)))))
  sNil)
  (sSeq (sSetX 5 [] (mStrip (mCallO 0 [] (cf 11) (mCons (mVal 1) (mCons (mVal 2) (mCons (mBin subD (mVal 3) (mC (.int 1))) mNil))))))
  (sSeq (sIf (mTB (mBin eqD (mVal 4) (mC (.int 2))))
  (sRetX [] (mTup (mCons (mC (.str "times")) (mCons (mVal 5) (mCons (mStrip (mCallO 0 [] (cf 6) (mCons (mC (.int 10)) mNil))) mNil)))))
  sNil)
  (sSeq (sIf (mAnd (mTB (mBin eqD (mVal 4) (mC (.int 3)))) (mTB (mBin neD (mVal 2) (mStrip (mOwnL mNil)))))
  (sRetX [] (mTup (mCons (mStrip (mCallO 0 [] (cf 7) (mCons (mStrip (mOwnL (mCons (mC (.str "where")) (mCons (mC (.str "unless")) mNil)))) mNil))) (mCons (mVal 5) (mCons (mStrip (mCallO 0 [] (cf 10) (mCons (mVal 2) (mCons (mCB minD (mCons (mC (.int 1)) (mCons (mBin subD (mVal 3) (mC (.int 1))) mNil))) mNil)))) mNil)))))
  sNil)
  (sRetX [] (mTup (mCons (mStrip (mCallO 0 [] (cf 7) (mCons (mStrip (mOwnL (mCons (mC (.str "plus")) (mCons (mC (.str "both")) (mCons (mC (.str "either")) (mCons (mC (.str "rest")) (mCons (mC (.str "both")) mNil))))))) mNil))) (mCons (mVal 5) (mCons (mStrip (mCallO 0 [] (cf 11) (mCons (mVal 1) (mCons (mVal 2) (mCons (mBin subD (mVal 3) (mC (.int 1))) mNil))))) mNil))))))))))
def bd12 (cf : Nat → List D → OutF) : MS :=
  (sRetX [] (mLcX [] (mIter anyOf (mVal 0)) (aName 1) [1] (mTru (mIsi kt0 (fun _ => false) [.ty "tuple"] (mVal 1))) (mVal 1)))
def bd13 (cf : Nat → List D → OutF) : MS :=
  (sSeq (sIf (mTB (mBin eqD (mBin ixA (mVal 0) (mC (.int 0))) (mC (.str "null"))))
  (sRetX [] (mBin isD (mBin ixA (mVal 1) (mBin ixA (mVal 0) (mC (.int 1)))) (mC .non)))
  sNil)
  (sSeq (sIf (mTB (mBin inA (mBin ixA (mVal 0) (mC (.int 0))) (mStrip (mOwnL (mCons (mC (.str "less")) (mCons (mC (.str "most")) (mCons (mC (.str "equal")) mNil)))))))
  (sSeq (sSetX 4 [] (mBin ixA (mVal 1) (mBin ixA (mVal 0) (mC (.int 1)))))
  (sSeq (sIf (mTB (mBin isD (mVal 4) (mC .non)))
  (sRetX [] (mC .non))
  sNil)
  (sRetX [] (mBin ixA (mStrip (mDisp [.inr "less", .inr "most", .inr "equal"] (mCons (mBin ltD (mVal 4) (mBin ixA (mVal 0) (mC (.int 2)))) (mCons (mBin ltD (mVal 4) (mBin addD (mBin ixA (mVal 0) (mC (.int 2))) (mC (.int 1)))) (mCons (mBin eqD (mBin subD (mVal 4) (mBin ixA (mVal 0) (mC (.int 2)))) (mC (.int 0))) mNil))))) (mBin ixA (mVal 0) (mC (.int 0)))))))
  sNil)
  (sSeq (sSetX 2 [] (mLcX [] (mIter anyOf (mSl (mVal 0) (mPart (mC (.int 1))) mNoPart)) (aName 5) [5] mYes (mStrip (mCall (cf 13) (mCons (mVal 5) (mCons (mVal 1) mNil))))))
  (sSeq (sIf (mTB (mBin eqD (mBin ixA (mVal 0) (mC (.int 0))) (mC (.str "not"))))
  (sRetX [] (mGetB [(some true, .bl false), (some false, .bl true)] (mOwnIxA 2 (mC (.int 0)))))
  sNil)
  (sSeq (sSetX 3 [] (mLcX [2] (mIter anyOf (mOwn 2)) (aName 6) [6] mYes (mPickB [(some false, .int (0)), (none, .int (1)), (some true, .int (2))] (mVal 6))))
  (sRetX [3, 3] (mBin ixA (mStrip (mOwnL (mCons (mC (.bl false)) (mCons (mC .non) (mCons (mC (.bl true)) mNil))))) (mIf (mTB (mBin eqD (mBin ixA (mVal 0) (mC (.int 0))) (mC (.str "and")))) (mCB minD (mCons (mOwn 3) mNil)) (mCB maxD (mCons (mOwn 3) mNil))))))))))
def bd14 (cf : Nat → List D → OutF) : MS :=
  (sSeq (sSetX 3 [] (mBin ixA (mVal 0) (mC (.int 0))))
  (sSeq (sIf (mTB (mBin inA (mVal 3) (mStrip (mOwnL (mCons (mC (.str "of")) (mCons (mC (.str "none")) mNil))))))
  (sRetX [] (mIf (mTB (mBin eqD (mVal 3) (mC (.str "of")))) (mBin ixA (mVal 1) (mBin ixA (mVal 0) (mC (.int 1)))) (mC (.int 0))))
  sNil)
  (sSeq (sSetX 4 [] (mStrip (mCall (cf 14) (mCons (mBin ixA (mVal 0) (mC (.int 1))) (mCons (mVal 1) (mCons (mVal 2) mNil))))))
  (sSeq (sIf (mTB (mBin eqD (mVal 3) (mC (.str "times"))))
  (sRetX [] (mCB sumAD (mCons (mBin mulD (mStrip (mOwnL (mCons (mVal 4) mNil))) (mBin ixA (mVal 0) (mC (.int 2)))) mNil)))
  sNil)
  (sSeq (sIf (mTB (mBin inA (mVal 3) (mStrip (mOwnL (mCons (mC (.str "where")) (mCons (mC (.str "unless")) mNil))))))
  (sSeq (sSetX 6 [] (mBin eqD (mCB reprD (mCons (mStrip (mCall (cf 13) (mCons (mBin ixA (mVal 0) (mC (.int 2))) (mCons (mVal 2) mNil)))) mNil)) (mC (.str "True"))))
  (sRetX [] (mIf (mTB (mBin eqD (mVal 6) (mBin eqD (mVal 3) (mC (.str "where"))))) (mVal 4) (mC (.int 0)))))
  sNil)
  (sSeq (sSetX 5 [] (mStrip (mCall (cf 14) (mCons (mBin ixA (mVal 0) (mC (.int 2))) (mCons (mVal 1) (mCons (mVal 2) mNil))))))
  (sSeq (sAsg [] (mCB sortedAD (mCons (mStrip (mOwnL (mCons (mVal 4) (mCons (mVal 5) mNil)))) mNil)) (aTup 2 (aCons (aName 7) (aCons (aName 8) aNil))))
  (sRetX [] (mBin ixA (mStrip (mDisp [.inr "plus", .inr "both", .inr "either", .inr "rest"] (mCons (mBin addD (mVal 7) (mVal 8)) (mCons (mVal 7) (mCons (mVal 8) (mCons (mBin subD (mVal 4) (mVal 7)) mNil)))))) (mVal 3))))))))))
def bd15 (cf : Nat → List D → OutF) : MS :=
  (sRetX [] (mIf (mTB (mBin eqD (mBin ixA (mVal 0) (mC (.int 0))) (mC (.str "of")))) (mStrip (mOwnL (mCons (mBin ixA (mVal 0) (mC (.int 1))) mNil))) (mCB sumAD (mCons (mStrip (mLcX [] (mIter anyOf (mStrip (mCall (cf 12) (mCons (mVal 0) mNil)))) (aName 1) [1] (mTB (mBin notInA (mBin ixA (mVal 1) (mC (.int 0))) (mStrip (mOwnL (mCons (mC (.str "less")) (mCons (mC (.str "most")) (mCons (mC (.str "equal")) (mCons (mC (.str "null")) (mCons (mC (.str "not")) (mCons (mC (.str "and")) (mCons (mC (.str "or")) mNil))))))))))) (mStrip (mCall (cf 15) (mCons (mVal 1) mNil))))) (mCons (mStrip (mOwnL mNil)) mNil)))))
def bd16 (cf : Nat → List D → OutF) : MS :=
  (sSeq (sIf (mTB (mBin eqD (mBin ixA (mVal 0) (mC (.int 0))) (mC (.str "of"))))
  (sRetX [] (mGet2' (mVal 1) (mBin ixA (mVal 0) (mC (.int 1))) (mVal 0)))
  sNil)
  (sRetX [] (mCB tupleD (mCons (mStrip (mLcX [] (mIter anyOf (mVal 0)) (aName 2) [2] mYes (mIf (mAnd (mTru (mIsi kt0 (fun _ => false) [.ty "tuple"] (mVal 2))) (mTB (mBin notInA (mBin ixA (mVal 2) (mC (.int 0))) (mStrip (mOwnL (mCons (mC (.str "less")) (mCons (mC (.str "most")) (mCons (mC (.str "equal")) (mCons (mC (.str "null")) (mCons (mC (.str "not")) (mCons (mC (.str "and")) (mCons (mC (.str "or")) mNil)))))))))))) (mStrip (mCall (cf 16) (mCons (mVal 2) (mCons (mVal 1) mNil)))) (mVal 2)))) mNil))))
def bd17 (cf : Nat → List D → OutF) : MS :=
  (sSeq (sSetX 1 [] (mCall (cf 5) (mCons (mVal 0) mNil)))
  (sSeq (sFor [] (mRange1 (mCons (mC (.int 10)) mNil)) (aName 2)
  (sSeq (sSetX 3 [] (mStrip (mCallO 1 [] (cf 8) (mCons (mC (.int 8)) mNil))))
  (sSeq (sAsg [] (mTup (mCons (mSl (mVal 3) mNoPart (mPart (mC (.int 3)))) (mCons (mSl (mVal 3) (mPart (mC (.int 3))) (mPart (mC (.int 5)))) (mCons (mSl (mVal 3) (mPart (mC (.int 5))) (mPart (mBin addD (mC (.int 5)) (mStrip (mCallO 1 [] (cf 6) (mCons (mC (.int 3)) mNil)))))) mNil)))) (aTup 3 (aCons (aName 10) (aCons (aName 11) (aCons (aName 12) aNil)))))
  (sSeq (sSetX 4 [] (mStrip (mCallO 1 [] (cf 11) (mCons (mBin addD (mVal 10) (mVal 11)) (mCons (mVal 12) (mCons (mC (.int 4)) mNil))))))
  (sSeq (sIf (mOr (mTB (mBin neD (mStrip (mCall (cf 3) (mCons (mVal 4) mNil))) (mCB tupleD (mCons (mSortSet (mStrip (mCall (cf 15) (mCons (mVal 4) mNil)))) mNil)))) (mTB (mBin neD (mStrip (mCall (cf 3) (mApp (kgI kg0) mNil (mCons (mVal 4) mNil)))) (mStrip (mCall (cf 3) (mCons (mVal 4) mNil))))))
  (sRetX [] (mC (.bl false)))
  sNil)
  (sSeq (sSetX 5 [] (mCB dictD (mCons (mStrip (mLcX [] (mIter anyOf (mSl (mVal 11) mNoPart (mPart (mBin addD (mC (.int 1)) (mStrip (mCallO 1 [] (cf 6) (mCons (mC (.int 2)) mNil))))))) (aName 13) [13] mYes (mTup (mCons (mVal 13) (mCons (mStrip (mCallO 1 [] (cf 11) (mCons (mVal 10) (mCons (mVal 12) (mCons (mC (.int 2)) mNil))))) mNil))))) mNil)))
  (sSeq (sSetX 6 [] (mStrip (mCall (cf 4) (mCons (mVal 4) (mCons (mVal 5) mNil)))))
  (sSeq (sIf (mOr (mTB (mBin neD (mCB reprD (mCons (mVal 6) mNil)) (mCB reprD (mCons (mStrip (mCall (cf 16) (mCons (mVal 4) (mCons (mVal 5) mNil)))) mNil)))) (mTB (mBin neD (mCB reprD (mCons (mStrip (mCall (cf 4) (mApp (kgI kg1) mNil (mCons (mVal 5) (mCons (mVal 4) mNil))))) mNil)) (mCB reprD (mCons (mVal 6) mNil)))))
  (sRetX [] (mC (.bl false)))
  sNil)
  (sSeq (sSetX 7 [] (mCB dictD (mCons (mStrip (mLcX [] (mIter anyOf (mBin addD (mVal 10) (mVal 11))) (aName 14) [14] mYes (mTup (mCons (mVal 14) (mCons (mStrip (mCallO 1 [] (cf 6) (mCons (mC (.int 6)) mNil))) mNil))))) mNil)))
  (sSeq (sSetX 8 [] (mCB dictD (mCons (mStrip (mLcX [] (mIter anyOf (mVal 12)) (aName 15) [15] mYes (mTup (mCons (mVal 15) (mCons (mStrip (mCallO 1 [] (cf 7) (mCons (mStrip (mOwnL (mCons (mC .non) (mCons (mC (.int 0)) (mCons (mC (.int 1)) (mCons (mC (.int 2)) (mCons (mC (.int 5)) mNil))))))) mNil))) mNil))))) mNil)))
  (sSeq (sSetX 9 [] (mCB dictD (mCons (mStrip (mLcX [] (mIter (ofDct keysL) (mVal 7)) (aName 14) [14] mYes (mTup (mCons (mVal 14) (mCons (mIf (mTB (mBin inA (mVal 14) (mVal 5))) (mStrip (mCall (cf 14) (mCons (mBin ixA (mVal 5) (mVal 14)) (mCons (mVal 7) (mCons (mVal 8) mNil))))) (mBin ixA (mVal 7) (mVal 14))) mNil))))) mNil)))
  (sIf (mTB (mBin neD (mStrip (mCall (cf 2) (mCons (mVal 6) (mCons (mVal 7) (mCons (mVal 8) mNil))))) (mStrip (mCall (cf 14) (mCons (mVal 4) (mCons (mVal 9) (mCons (mVal 8) mNil)))))))
  (sRetX [] (mC (.bl false)))
  sNil))))))))))))
  (sRetX [] (mAndV (mBin eqD (mStrip (mCall (cf 4) (mCons (mTup (mCons (mC (.str "none")) mNil)) (mCons (mStrip (mDisp [.inr "a"] (mCons (mTup (mCons (mC (.str "of")) (mCons (mC (.str "b")) mNil))) mNil))) mNil)))) (mTup (mCons (mC (.str "none")) mNil))) (mBin eqD (mStrip (mCall (cf 3) (mCons (mTup (mCons (mC (.str "none")) mNil)) mNil))) (mTup mNil))))))
def tabF (cf : Nat → List D → OutF) (i : Nat) (as : List D) : OutF := match i with
  | 0 => fnD false 2 3 (bd0 cf) as
  | 1 => fnD false 2 1 (bd1 cf) as
  | 2 => fnD false 3 3 (bd2 cf) as
  | 3 => fnD false 1 3 (bd3 cf) as
  | 4 => fnD false 2 2 (bd4 cf) as
  | 5 => fnD false 1 0 (bd5 cf) as
  | 6 => fnD true 2 5 (bd6 cf) as
  | 7 => fnD true 2 0 (bd7 cf) as
  | 8 => fnD true 2 5 (bd8 cf) as
  | 9 => fnD true 2 2 (bd9 cf) as
  | 10 => fnD true 3 1 (bd10 cf) as
  | 11 => fnD true 4 2 (bd11 cf) as
  | 12 => fnD false 1 1 (bd12 cf) as
  | 13 => fnD false 2 5 (bd13 cf) as
  | 14 => fnD false 3 6 (bd14 cf) as
  | 15 => fnD false 1 1 (bd15 cf) as
  | 16 => fnD false 2 1 (bd16 cf) as
  | 17 => fnD false 1 15 (bd17 cf) as
  | _ => .bad
def callF : Nat → Nat → List D → OutF
  | 0, _, _ => .bad
  | n + 1, i, as => tabF (callF n) i as
theorem cf0 (n : Nat) (as : List D) : callF (n + 1) 0 as = fnD false 2 3 (bd0 (callF n)) as := rfl
theorem cf1 (n : Nat) (as : List D) : callF (n + 1) 1 as = fnD false 2 1 (bd1 (callF n)) as := rfl
theorem cf2 (n : Nat) (as : List D) : callF (n + 1) 2 as = fnD false 3 3 (bd2 (callF n)) as := rfl
theorem cf3 (n : Nat) (as : List D) : callF (n + 1) 3 as = fnD false 1 3 (bd3 (callF n)) as := rfl
theorem cf4 (n : Nat) (as : List D) : callF (n + 1) 4 as = fnD false 2 2 (bd4 (callF n)) as := rfl
theorem cf5 (n : Nat) (as : List D) : callF (n + 1) 5 as = fnD false 1 0 (bd5 (callF n)) as := rfl
theorem cf6 (n : Nat) (as : List D) : callF (n + 1) 6 as = fnD true 2 5 (bd6 (callF n)) as := rfl
theorem cf7 (n : Nat) (as : List D) : callF (n + 1) 7 as = fnD true 2 0 (bd7 (callF n)) as := rfl
theorem cf8 (n : Nat) (as : List D) : callF (n + 1) 8 as = fnD true 2 5 (bd8 (callF n)) as := rfl
theorem cf9 (n : Nat) (as : List D) : callF (n + 1) 9 as = fnD true 2 2 (bd9 (callF n)) as := rfl
theorem cf10 (n : Nat) (as : List D) : callF (n + 1) 10 as = fnD true 3 1 (bd10 (callF n)) as := rfl
theorem cf11 (n : Nat) (as : List D) : callF (n + 1) 11 as = fnD true 4 2 (bd11 (callF n)) as := rfl
theorem cf12 (n : Nat) (as : List D) : callF (n + 1) 12 as = fnD false 1 1 (bd12 (callF n)) as := rfl
theorem cf13 (n : Nat) (as : List D) : callF (n + 1) 13 as = fnD false 2 5 (bd13 (callF n)) as := rfl
theorem cf14 (n : Nat) (as : List D) : callF (n + 1) 14 as = fnD false 3 6 (bd14 (callF n)) as := rfl
theorem cf15 (n : Nat) (as : List D) : callF (n + 1) 15 as = fnD false 1 1 (bd15 (callF n)) as := rfl
theorem cf16 (n : Nat) (as : List D) : callF (n + 1) 16 as = fnD false 2 1 (bd16 (callF n)) as := rfl
theorem cf17 (n : Nat) (as : List D) : callF (n + 1) 17 as = fnD false 1 15 (bd17 (callF n)) as := rfl
abbrev d0 : He.DefD := ⟨("truth_of", none), "truth_of", "truth_of", defArgs (top 18), defBody (top 18), defScope (top 18), [], []⟩
abbrev d1 : He.DefD := ⟨("put_together", none), "put_together", "put_together", defArgs (top 19), defBody (top 19), defScope (top 19), [], []⟩
abbrev d2 : He.DefD := ⟨("number_of", none), "number_of", "number_of", defArgs (top 20), defBody (top 20), defScope (top 20), [], []⟩
abbrev d3 : He.DefD := ⟨("names_in", none), "names_in", "names_in", defArgs (top 21), defBody (top 21), defScope (top 21), [], []⟩
abbrev d4 : He.DefD := ⟨("replaced", none), "replaced", "replaced", defArgs (top 22), defBody (top 22), defScope (top 22), [], []⟩
abbrev d5 : He.DefD := ⟨("_law_pen", none), "_law_pen", "_law_pen", defArgs (top 24), defBody (top 24), defScope (top 24), [], []⟩
abbrev d6 : He.DefD := ⟨("_law_draw", none), "_law_draw", "_law_draw", defArgs (top 25), defBody (top 25), defScope (top 25), [], []⟩
abbrev d7 : He.DefD := ⟨("_law_pick", none), "_law_pick", "_law_pick", defArgs (top 26), defBody (top 26), defScope (top 26), [], []⟩
abbrev d8 : He.DefD := ⟨("_law_names", none), "_law_names", "_law_names", defArgs (top 27), defBody (top 27), defScope (top 27), [], []⟩
abbrev d9 : He.DefD := ⟨("_law_condition", none), "_law_condition", "_law_condition", defArgs (top 28), defBody (top 28), defScope (top 28), [], []⟩
abbrev d10 : He.DefD := ⟨("_law_test", none), "_law_test", "_law_test", defArgs (top 29), defBody (top 29), defScope (top 29), [], []⟩
abbrev d11 : He.DefD := ⟨("_law_question", none), "_law_question", "_law_question", defArgs (top 30), defBody (top 30), defScope (top 30), [], []⟩
abbrev d12 : He.DefD := ⟨("_law_inner", none), "_law_inner", "_law_inner", defArgs (top 31), defBody (top 31), defScope (top 31), [], []⟩
abbrev d13 : He.DefD := ⟨("_law_truth", none), "_law_truth", "_law_truth", defArgs (top 32), defBody (top 32), defScope (top 32), [], []⟩
abbrev d14 : He.DefD := ⟨("_law_number", none), "_law_number", "_law_number", defArgs (top 33), defBody (top 33), defScope (top 33), [], []⟩
abbrev d15 : He.DefD := ⟨("_law_named", none), "_law_named", "_law_named", defArgs (top 34), defBody (top 34), defScope (top 34), [], []⟩
abbrev d16 : He.DefD := ⟨("_law_put", none), "_law_put", "_law_put", defArgs (top 35), defBody (top 35), defScope (top 35), [], []⟩
abbrev d17 : He.DefD := ⟨("law", none), "law", "law", defArgs (top 36), defBody (top 36), defScope (top 36), [], []⟩
def fn : List He.DefD := [d0, d1, d2, d3, d4, d5, d6, d7, d8, d9, d10, d11, d12, d13, d14, d15, d16, d17]
def fa : List He.Fa := [.glo "truth_of", .glo "put_together", .glo "number_of", .glo "names_in", .glo "replaced", .glo "_law_pen", .glo "_law_draw", .glo "_law_pick", .glo "_law_names", .glo "_law_condition", .glo "_law_test", .glo "_law_question", .glo "_law_inner", .glo "_law_truth", .glo "_law_number", .glo "_law_named", .glo "_law_put", .glo "law", .free "abs", .free "dict", .free "int", .free "isinstance", .free "len", .free "list", .free "max", .free "min", .free "range", .free "repr", .free "set", .free "sorted", .free "sum", .free "tuple"]
def ks : List (Str × D) := [("OF", c_OF), ("NONE", c_NONE), ("PLUS", c_PLUS), ("BOTH", c_BOTH), ("REST", c_REST), ("TIMES", c_TIMES), ("WHERE", c_WHERE), ("UNLESS", c_UNLESS), ("LESS", c_LESS), ("MOST", c_MOST), ("NULL", c_NULL), ("NOT", c_NOT), ("OR", c_OR), ("PAIRS", c_PAIRS), ("COMPARED", c_COMPARED)]
structure Fx (K : PySem.W.Frag) (mg : Str → Option Value) (cla : Nat → Addr) (fds : Nat → FuncData) : Prop where
  F0 : FunD K "truth_of" "truth_of" (defArgs (top 18)) (defBody (top 18)) (defScope (top 18)) [] [] (He.ga K "truth_of") (fds 0)
  g_truth_of : mg "truth_of" = some (.ref (He.ga K "truth_of"))
  F1 : FunD K "put_together" "put_together" (defArgs (top 19)) (defBody (top 19)) (defScope (top 19)) [] [] (He.ga K "put_together") (fds 1)
  g_put_together : mg "put_together" = some (.ref (He.ga K "put_together"))
  F2 : FunD K "number_of" "number_of" (defArgs (top 20)) (defBody (top 20)) (defScope (top 20)) [] [] (He.ga K "number_of") (fds 2)
  g_number_of : mg "number_of" = some (.ref (He.ga K "number_of"))
  F3 : FunD K "names_in" "names_in" (defArgs (top 21)) (defBody (top 21)) (defScope (top 21)) [] [] (He.ga K "names_in") (fds 3)
  g_names_in : mg "names_in" = some (.ref (He.ga K "names_in"))
  F4 : FunD K "replaced" "replaced" (defArgs (top 22)) (defBody (top 22)) (defScope (top 22)) [] [] (He.ga K "replaced") (fds 4)
  g_replaced : mg "replaced" = some (.ref (He.ga K "replaced"))
  F5 : FunD K "_law_pen" "_law_pen" (defArgs (top 24)) (defBody (top 24)) (defScope (top 24)) [] [] (He.ga K "_law_pen") (fds 5)
  g__law_pen : mg "_law_pen" = some (.ref (He.ga K "_law_pen"))
  F6 : FunD K "_law_draw" "_law_draw" (defArgs (top 25)) (defBody (top 25)) (defScope (top 25)) [] [] (He.ga K "_law_draw") (fds 6)
  g__law_draw : mg "_law_draw" = some (.ref (He.ga K "_law_draw"))
  F7 : FunD K "_law_pick" "_law_pick" (defArgs (top 26)) (defBody (top 26)) (defScope (top 26)) [] [] (He.ga K "_law_pick") (fds 7)
  g__law_pick : mg "_law_pick" = some (.ref (He.ga K "_law_pick"))
  F8 : FunD K "_law_names" "_law_names" (defArgs (top 27)) (defBody (top 27)) (defScope (top 27)) [] [] (He.ga K "_law_names") (fds 8)
  g__law_names : mg "_law_names" = some (.ref (He.ga K "_law_names"))
  F9 : FunD K "_law_condition" "_law_condition" (defArgs (top 28)) (defBody (top 28)) (defScope (top 28)) [] [] (He.ga K "_law_condition") (fds 9)
  g__law_condition : mg "_law_condition" = some (.ref (He.ga K "_law_condition"))
  F10 : FunD K "_law_test" "_law_test" (defArgs (top 29)) (defBody (top 29)) (defScope (top 29)) [] [] (He.ga K "_law_test") (fds 10)
  g__law_test : mg "_law_test" = some (.ref (He.ga K "_law_test"))
  F11 : FunD K "_law_question" "_law_question" (defArgs (top 30)) (defBody (top 30)) (defScope (top 30)) [] [] (He.ga K "_law_question") (fds 11)
  g__law_question : mg "_law_question" = some (.ref (He.ga K "_law_question"))
  F12 : FunD K "_law_inner" "_law_inner" (defArgs (top 31)) (defBody (top 31)) (defScope (top 31)) [] [] (He.ga K "_law_inner") (fds 12)
  g__law_inner : mg "_law_inner" = some (.ref (He.ga K "_law_inner"))
  F13 : FunD K "_law_truth" "_law_truth" (defArgs (top 32)) (defBody (top 32)) (defScope (top 32)) [] [] (He.ga K "_law_truth") (fds 13)
  g__law_truth : mg "_law_truth" = some (.ref (He.ga K "_law_truth"))
  F14 : FunD K "_law_number" "_law_number" (defArgs (top 33)) (defBody (top 33)) (defScope (top 33)) [] [] (He.ga K "_law_number") (fds 14)
  g__law_number : mg "_law_number" = some (.ref (He.ga K "_law_number"))
  F15 : FunD K "_law_named" "_law_named" (defArgs (top 34)) (defBody (top 34)) (defScope (top 34)) [] [] (He.ga K "_law_named") (fds 15)
  g__law_named : mg "_law_named" = some (.ref (He.ga K "_law_named"))
  F16 : FunD K "_law_put" "_law_put" (defArgs (top 35)) (defBody (top 35)) (defScope (top 35)) [] [] (He.ga K "_law_put") (fds 16)
  g__law_put : mg "_law_put" = some (.ref (He.ga K "_law_put"))
  F17 : FunD K "law" "law" (defArgs (top 36)) (defBody (top 36)) (defScope (top 36)) [] [] (He.ga K "law") (fds 17)
  g_law : mg "law" = some (.ref (He.ga K "law"))
  b_abs : mg "abs" = none
  b_dict : mg "dict" = none
  b_int : mg "int" = none
  b_isinstance : mg "isinstance" = none
  b_len : mg "len" = none
  b_list : mg "list" = none
  b_max : mg "max" = none
  b_min : mg "min" = none
  b_range : mg "range" = none
  b_repr : mg "repr" = none
  b_set : mg "set" = none
  b_sorted : mg "sorted" = none
  b_sum : mg "sum" = none
  b_tuple : mg "tuple" = none
  k_OF : Kon mg ⟨K, cla⟩ "OF" c_OF
  k_NONE : Kon mg ⟨K, cla⟩ "NONE" c_NONE
  k_PLUS : Kon mg ⟨K, cla⟩ "PLUS" c_PLUS
  k_BOTH : Kon mg ⟨K, cla⟩ "BOTH" c_BOTH
  k_REST : Kon mg ⟨K, cla⟩ "REST" c_REST
  k_TIMES : Kon mg ⟨K, cla⟩ "TIMES" c_TIMES
  k_WHERE : Kon mg ⟨K, cla⟩ "WHERE" c_WHERE
  k_UNLESS : Kon mg ⟨K, cla⟩ "UNLESS" c_UNLESS
  k_LESS : Kon mg ⟨K, cla⟩ "LESS" c_LESS
  k_MOST : Kon mg ⟨K, cla⟩ "MOST" c_MOST
  k_NULL : Kon mg ⟨K, cla⟩ "NULL" c_NULL
  k_NOT : Kon mg ⟨K, cla⟩ "NOT" c_NOT
  k_OR : Kon mg ⟨K, cla⟩ "OR" c_OR
  k_PAIRS : Kon mg ⟨K, cla⟩ "PAIRS" c_PAIRS
  k_COMPARED : Kon mg ⟨K, cla⟩ "COMPARED" c_COMPARED
theorem facts {K : PySem.W.Frag} {mg : Str → Option Value} {cla : Nat → Addr} {fds : Nat → FuncData} {h : Heap} (kin : K.In h) (ns : h.Ns mainGlobals mg) (c : SaysM fa fn ks K) (F : FunsD fn K fds) : Fx K mg cla fds where
  F0 := F 0 d0 rfl
  g_truth_of := He.glo_ok kin ns (c.d.fact 0 (f := .glo "truth_of") rfl)
  F1 := F 1 d1 rfl
  g_put_together := He.glo_ok kin ns (c.d.fact 1 (f := .glo "put_together") rfl)
  F2 := F 2 d2 rfl
  g_number_of := He.glo_ok kin ns (c.d.fact 2 (f := .glo "number_of") rfl)
  F3 := F 3 d3 rfl
  g_names_in := He.glo_ok kin ns (c.d.fact 3 (f := .glo "names_in") rfl)
  F4 := F 4 d4 rfl
  g_replaced := He.glo_ok kin ns (c.d.fact 4 (f := .glo "replaced") rfl)
  F5 := F 5 d5 rfl
  g__law_pen := He.glo_ok kin ns (c.d.fact 5 (f := .glo "_law_pen") rfl)
  F6 := F 6 d6 rfl
  g__law_draw := He.glo_ok kin ns (c.d.fact 6 (f := .glo "_law_draw") rfl)
  F7 := F 7 d7 rfl
  g__law_pick := He.glo_ok kin ns (c.d.fact 7 (f := .glo "_law_pick") rfl)
  F8 := F 8 d8 rfl
  g__law_names := He.glo_ok kin ns (c.d.fact 8 (f := .glo "_law_names") rfl)
  F9 := F 9 d9 rfl
  g__law_condition := He.glo_ok kin ns (c.d.fact 9 (f := .glo "_law_condition") rfl)
  F10 := F 10 d10 rfl
  g__law_test := He.glo_ok kin ns (c.d.fact 10 (f := .glo "_law_test") rfl)
  F11 := F 11 d11 rfl
  g__law_question := He.glo_ok kin ns (c.d.fact 11 (f := .glo "_law_question") rfl)
  F12 := F 12 d12 rfl
  g__law_inner := He.glo_ok kin ns (c.d.fact 12 (f := .glo "_law_inner") rfl)
  F13 := F 13 d13 rfl
  g__law_truth := He.glo_ok kin ns (c.d.fact 13 (f := .glo "_law_truth") rfl)
  F14 := F 14 d14 rfl
  g__law_number := He.glo_ok kin ns (c.d.fact 14 (f := .glo "_law_number") rfl)
  F15 := F 15 d15 rfl
  g__law_named := He.glo_ok kin ns (c.d.fact 15 (f := .glo "_law_named") rfl)
  F16 := F 16 d16 rfl
  g__law_put := He.glo_ok kin ns (c.d.fact 16 (f := .glo "_law_put") rfl)
  F17 := F 17 d17 rfl
  g_law := He.glo_ok kin ns (c.d.fact 17 (f := .glo "law") rfl)
  b_abs := He.free_ok kin ns (c.d.fact 18 (f := .free "abs") rfl)
  b_dict := He.free_ok kin ns (c.d.fact 19 (f := .free "dict") rfl)
  b_int := He.free_ok kin ns (c.d.fact 20 (f := .free "int") rfl)
  b_isinstance := He.free_ok kin ns (c.d.fact 21 (f := .free "isinstance") rfl)
  b_len := He.free_ok kin ns (c.d.fact 22 (f := .free "len") rfl)
  b_list := He.free_ok kin ns (c.d.fact 23 (f := .free "list") rfl)
  b_max := He.free_ok kin ns (c.d.fact 24 (f := .free "max") rfl)
  b_min := He.free_ok kin ns (c.d.fact 25 (f := .free "min") rfl)
  b_range := He.free_ok kin ns (c.d.fact 26 (f := .free "range") rfl)
  b_repr := He.free_ok kin ns (c.d.fact 27 (f := .free "repr") rfl)
  b_set := He.free_ok kin ns (c.d.fact 28 (f := .free "set") rfl)
  b_sorted := He.free_ok kin ns (c.d.fact 29 (f := .free "sorted") rfl)
  b_sum := He.free_ok kin ns (c.d.fact 30 (f := .free "sum") rfl)
  b_tuple := He.free_ok kin ns (c.d.fact 31 (f := .free "tuple") rfl)
  k_OF := kon_ok (q := ("OF", c_OF)) rfl kin ns (c.kon 0 rfl)
  k_NONE := kon_ok (q := ("NONE", c_NONE)) rfl kin ns (c.kon 1 rfl)
  k_PLUS := kon_ok (q := ("PLUS", c_PLUS)) rfl kin ns (c.kon 2 rfl)
  k_BOTH := kon_ok (q := ("BOTH", c_BOTH)) rfl kin ns (c.kon 3 rfl)
  k_REST := kon_ok (q := ("REST", c_REST)) rfl kin ns (c.kon 4 rfl)
  k_TIMES := kon_ok (q := ("TIMES", c_TIMES)) rfl kin ns (c.kon 5 rfl)
  k_WHERE := kon_ok (q := ("WHERE", c_WHERE)) rfl kin ns (c.kon 6 rfl)
  k_UNLESS := kon_ok (q := ("UNLESS", c_UNLESS)) rfl kin ns (c.kon 7 rfl)
  k_LESS := kon_ok (q := ("LESS", c_LESS)) rfl kin ns (c.kon 8 rfl)
  k_MOST := kon_ok (q := ("MOST", c_MOST)) rfl kin ns (c.kon 9 rfl)
  k_NULL := kon_ok (q := ("NULL", c_NULL)) rfl kin ns (c.kon 10 rfl)
  k_NOT := kon_ok (q := ("NOT", c_NOT)) rfl kin ns (c.kon 11 rfl)
  k_OR := kon_ok (q := ("OR", c_OR)) rfl kin ns (c.kon 12 rfl)
  k_PAIRS := kon_ok (q := ("PAIRS", c_PAIRS)) rfl kin ns (c.kon 13 rfl)
  k_COMPARED := kon_ok (q := ("COMPARED", c_COMPARED)) rfl kin ns (c.kon 14 rfl)
structure All (P : Program) (w : World) (K : PySem.W.Frag) (mg : Str → Option Value) (base : Heap) (cla : Nat → Addr) (fds : Nat → FuncData) (n : Nat) : Prop where
  f0 : FnG P w K mg base CXn n (He.ga K "truth_of") (fds 0) ps0 (spD ⟨K, cla⟩ (callF n 0))
  f1 : FnG P w K mg base CXn n (He.ga K "put_together") (fds 1) ps1 (spD ⟨K, cla⟩ (callF n 1))
  f2 : FnG P w K mg base CXn n (He.ga K "number_of") (fds 2) ps2 (spD ⟨K, cla⟩ (callF n 2))
  f3 : FnG P w K mg base CXn n (He.ga K "names_in") (fds 3) ps3 (spD ⟨K, cla⟩ (callF n 3))
  f4 : FnG P w K mg base CXn n (He.ga K "replaced") (fds 4) ps4 (spD ⟨K, cla⟩ (callF n 4))
  f5 : FnG P w K mg base CXn n (He.ga K "_law_pen") (fds 5) ps5 (spD ⟨K, cla⟩ (callF n 5))
  f6 : FnG P w K mg base CXn n (He.ga K "_law_draw") (fds 6) ps6 (spD ⟨K, cla⟩ (callF n 6))
  f7 : FnG P w K mg base CXn n (He.ga K "_law_pick") (fds 7) ps7 (spD ⟨K, cla⟩ (callF n 7))
  f8 : FnG P w K mg base CXn n (He.ga K "_law_names") (fds 8) ps8 (spD ⟨K, cla⟩ (callF n 8))
  f9 : FnG P w K mg base CXn n (He.ga K "_law_condition") (fds 9) ps9 (spD ⟨K, cla⟩ (callF n 9))
  f10 : FnG P w K mg base CXn n (He.ga K "_law_test") (fds 10) ps10 (spD ⟨K, cla⟩ (callF n 10))
  f11 : FnG P w K mg base CXn n (He.ga K "_law_question") (fds 11) ps11 (spD ⟨K, cla⟩ (callF n 11))
  f12 : FnG P w K mg base CXn n (He.ga K "_law_inner") (fds 12) ps12 (spD ⟨K, cla⟩ (callF n 12))
  f13 : FnG P w K mg base CXn n (He.ga K "_law_truth") (fds 13) ps13 (spD ⟨K, cla⟩ (callF n 13))
  f14 : FnG P w K mg base CXn n (He.ga K "_law_number") (fds 14) ps14 (spD ⟨K, cla⟩ (callF n 14))
  f15 : FnG P w K mg base CXn n (He.ga K "_law_named") (fds 15) ps15 (spD ⟨K, cla⟩ (callF n 15))
  f16 : FnG P w K mg base CXn n (He.ga K "_law_put") (fds 16) ps16 (spD ⟨K, cla⟩ (callF n 16))
  f17 : FnG P w K mg base CXn n (He.ga K "law") (fds 17) ps17 (spD ⟨K, cla⟩ (callF n 17))
section
variable {P : Program} {w : World} {K : PySem.W.Frag} {mg : Str → Option Value} {base : Heap} {cla : Nat → Addr} {fds : Nat → FuncData} {n : Nat}
theorem bi0 (Z : Fx K mg cla fds) : L2.Binds K (fds 0) ps0 [] := Z.F0.bindsN fun _ _ _ _ _ _ us hl => match us, hl with | [_, _], _ => rfl
theorem sc0 : FnScope N0 ps0 (defScope (top 18)) := ⟨rfl, rfl, rfl, by decide +kernel, by decide +kernel, by decide +kernel, by decide +kernel⟩
theorem bi1 (Z : Fx K mg cla fds) : L2.Binds K (fds 1) ps1 [] := Z.F1.bindsN fun _ _ _ _ _ _ us hl => match us, hl with | [_, _], _ => rfl
theorem sc1 : FnScope N1 ps1 (defScope (top 19)) := ⟨rfl, rfl, rfl, by decide +kernel, by decide +kernel, by decide +kernel, by decide +kernel⟩
theorem bi2 (Z : Fx K mg cla fds) : L2.Binds K (fds 2) ps2 [] := Z.F2.bindsN fun _ _ _ _ _ _ us hl => match us, hl with | [_, _, _], _ => rfl
theorem sc2 : FnScope N2 ps2 (defScope (top 20)) := ⟨rfl, rfl, rfl, by decide +kernel, by decide +kernel, by decide +kernel, by decide +kernel⟩
theorem bi3 (Z : Fx K mg cla fds) : L2.Binds K (fds 3) ps3 [] := Z.F3.bindsN fun _ _ _ _ _ _ us hl => match us, hl with | [_], _ => rfl
theorem sc3 : FnScope N3 ps3 (defScope (top 21)) := ⟨rfl, rfl, rfl, by decide +kernel, by decide +kernel, by decide +kernel, by decide +kernel⟩
theorem bi4 (Z : Fx K mg cla fds) : L2.Binds K (fds 4) ps4 [] := Z.F4.bindsN fun _ _ _ _ _ _ us hl => match us, hl with | [_, _], _ => rfl
theorem sc4 : FnScope N4 ps4 (defScope (top 22)) := ⟨rfl, rfl, rfl, by decide +kernel, by decide +kernel, by decide +kernel, by decide +kernel⟩
theorem bi5 (Z : Fx K mg cla fds) : L2.Binds K (fds 5) ps5 [] := Z.F5.bindsN fun _ _ _ _ _ _ us hl => match us, hl with | [_], _ => rfl
theorem sc5 : FnScope N5 ps5 (defScope (top 24)) := ⟨rfl, rfl, rfl, by decide +kernel, by decide +kernel, by decide +kernel, by decide +kernel⟩
theorem bi6 (Z : Fx K mg cla fds) : L2.Binds K (fds 6) ps6 [] := Z.F6.bindsN fun _ _ _ _ _ _ us hl => match us, hl with | [_, _], _ => rfl
theorem sc6 : FnScope N6 ps6 (defScope (top 25)) := ⟨rfl, rfl, rfl, by decide +kernel, by decide +kernel, by decide +kernel, by decide +kernel⟩
theorem bi7 (Z : Fx K mg cla fds) : L2.Binds K (fds 7) ps7 [] := Z.F7.bindsN fun _ _ _ _ _ _ us hl => match us, hl with | [_, _], _ => rfl
theorem sc7 : FnScope N7 ps7 (defScope (top 26)) := ⟨rfl, rfl, rfl, by decide +kernel, by decide +kernel, by decide +kernel, by decide +kernel⟩
theorem bi8 (Z : Fx K mg cla fds) : L2.Binds K (fds 8) ps8 [] := Z.F8.bindsN fun _ _ _ _ _ _ us hl => match us, hl with | [_, _], _ => rfl
theorem sc8 : FnScope N8 ps8 (defScope (top 27)) := ⟨rfl, rfl, rfl, by decide +kernel, by decide +kernel, by decide +kernel, by decide +kernel⟩
theorem bi9 (Z : Fx K mg cla fds) : L2.Binds K (fds 9) ps9 [] := Z.F9.bindsN fun _ _ _ _ _ _ us hl => match us, hl with | [_, _], _ => rfl
theorem sc9 : FnScope N9 ps9 (defScope (top 28)) := ⟨rfl, rfl, rfl, by decide +kernel, by decide +kernel, by decide +kernel, by decide +kernel⟩
theorem bi10 (Z : Fx K mg cla fds) : L2.Binds K (fds 10) ps10 [] := Z.F10.bindsN fun _ _ _ _ _ _ us hl => match us, hl with | [_, _, _], _ => rfl
theorem sc10 : FnScope N10 ps10 (defScope (top 29)) := ⟨rfl, rfl, rfl, by decide +kernel, by decide +kernel, by decide +kernel, by decide +kernel⟩
theorem bi11 (Z : Fx K mg cla fds) : L2.Binds K (fds 11) ps11 [] := Z.F11.bindsN fun _ _ _ _ _ _ us hl => match us, hl with | [_, _, _, _], _ => rfl
theorem sc11 : FnScope N11 ps11 (defScope (top 30)) := ⟨rfl, rfl, rfl, by decide +kernel, by decide +kernel, by decide +kernel, by decide +kernel⟩
theorem bi12 (Z : Fx K mg cla fds) : L2.Binds K (fds 12) ps12 [] := Z.F12.bindsN fun _ _ _ _ _ _ us hl => match us, hl with | [_], _ => rfl
theorem sc12 : FnScope N12 ps12 (defScope (top 31)) := ⟨rfl, rfl, rfl, by decide +kernel, by decide +kernel, by decide +kernel, by decide +kernel⟩
theorem bi13 (Z : Fx K mg cla fds) : L2.Binds K (fds 13) ps13 [] := Z.F13.bindsN fun _ _ _ _ _ _ us hl => match us, hl with | [_, _], _ => rfl
theorem sc13 : FnScope N13 ps13 (defScope (top 32)) := ⟨rfl, rfl, rfl, by decide +kernel, by decide +kernel, by decide +kernel, by decide +kernel⟩
theorem bi14 (Z : Fx K mg cla fds) : L2.Binds K (fds 14) ps14 [] := Z.F14.bindsN fun _ _ _ _ _ _ us hl => match us, hl with | [_, _, _], _ => rfl
theorem sc14 : FnScope N14 ps14 (defScope (top 33)) := ⟨rfl, rfl, rfl, by decide +kernel, by decide +kernel, by decide +kernel, by decide +kernel⟩
theorem bi15 (Z : Fx K mg cla fds) : L2.Binds K (fds 15) ps15 [] := Z.F15.bindsN fun _ _ _ _ _ _ us hl => match us, hl with | [_], _ => rfl
theorem sc15 : FnScope N15 ps15 (defScope (top 34)) := ⟨rfl, rfl, rfl, by decide +kernel, by decide +kernel, by decide +kernel, by decide +kernel⟩
theorem bi16 (Z : Fx K mg cla fds) : L2.Binds K (fds 16) ps16 [] := Z.F16.bindsN fun _ _ _ _ _ _ us hl => match us, hl with | [_, _], _ => rfl
theorem sc16 : FnScope N16 ps16 (defScope (top 35)) := ⟨rfl, rfl, rfl, by decide +kernel, by decide +kernel, by decide +kernel, by decide +kernel⟩
theorem bi17 (Z : Fx K mg cla fds) : L2.Binds K (fds 17) ps17 [] := Z.F17.bindsN fun _ _ _ _ _ _ us hl => match us, hl with | [_], _ => rfl
theorem sc17 : FnScope N17 ps17 (defScope (top 36)) := ⟨rfl, rfl, rfl, by decide +kernel, by decide +kernel, by decide +kernel, by decide +kernel⟩
theorem kb0 (Z : Fx K mg cla fds) : KBn K (fds 3) ps3 0 ["question"] (kgI kg0) (kgI kg0) := kbn_of Z.F3 (fun _ _ _ _ _ _ us ws l1 l2 => match us, ws, l1, l2 with | [], [_], _, _ => rfl) kgI_vals
theorem kb1 (Z : Fx K mg cla fds) : KBn K (fds 4) ps4 0 ["known", "question"] (kgI kg1) (kgI kg1) := kbn_of Z.F4 (fun _ _ _ _ _ _ us ws l1 l2 => match us, ws, l1, l2 with | [], [_, _], _, _ => rfl) kgI_vals
theorem ok0 (Z : Fx K mg cla fds) (A : All P w K mg base cla fds n) : FnG P w K mg base CXn (n + 1) (He.ga K "truth_of") (fds 0) ps0 (spD ⟨K, cla⟩ (callF (n + 1) 0)) :=
  FnG.of Z.F0 sc0 (spD_len rfl) fun cd Ar fr s H vs Q E hr gu h => by
  have hK : (⟨K, cla⟩ : RX).K = K := rfl
  have hN := (sc0).nd
  have hu := hr.units
  have hu5 := units65 hr
  refine ⟨tDS ⟨K, cla⟩ Wf [] (bd0 (callF n)), PSs.nox ?_, fn_core (p := false) (np := 2) (nl := 3) (body := bd0 (callF n)) (N := N0) (Wx := Wf) rfl h⟩
  exact (dss_cons (ds_setX (i := 2) hN rfl (.inl rfl) (dxB (dx_of (de_ixA hK hu (de_val (pe_var (i := 0) rfl (.inl rfl))) de_int)) rfl))
  (dss_cons (ds_if (dt_cmp (or_eq hu) eq_ops (de_val (pe_var (i := 2) rfl (.inl rfl))) (de_kon Z.k_NULL rfl))
  (dss_one (ds_retX (dxB (dx_of (de_cmp or_is is_ops (de_ixA hK hu (de_val (pe_var (i := 1) rfl (.inr (.inl rfl)))) (de_ixA hK hu (de_val (pe_var (i := 0) rfl (.inl rfl))) de_int)) de_non)) rfl)))
  dss_nil)
  (dss_cons (ds_if (dt_cmp (or_inA hu5) inA_ops (de_val (pe_var (i := 2) rfl (.inl rfl))) (de_kon Z.k_COMPARED rfl))
  (dss_cons (ds_setX (i := 3) hN rfl (.inl rfl) (dxB (dx_of (de_ixA hK hu (de_val (pe_var (i := 1) rfl (.inr (.inl rfl)))) (de_ixA hK hu (de_val (pe_var (i := 0) rfl (.inl rfl))) de_int))) rfl))
  (dss_cons (ds_if (dt_cmp or_is is_ops (de_val (pe_var (i := 3) rfl (.inl rfl))) de_non)
  (dss_one (ds_retX (dxB (dx_of de_non) rfl)))
  dss_nil)
  (dss_one (ds_retX (dxB (dx_of (de_if (dt_cmp (or_eq hu) eq_ops (de_val (pe_var (i := 2) rfl (.inl rfl))) (de_kon Z.k_LESS rfl)) (de_cmp or_lt ord_ops (de_val (pe_var (i := 3) rfl (.inl rfl))) (de_ixA hK hu (de_val (pe_var (i := 0) rfl (.inl rfl))) de_int)) (de_if (dt_cmp (or_eq hu) eq_ops (de_val (pe_var (i := 2) rfl (.inl rfl))) (de_kon Z.k_MOST rfl)) (de_cmp or_le ord_ops (de_val (pe_var (i := 3) rfl (.inl rfl))) (de_ixA hK hu (de_val (pe_var (i := 0) rfl (.inl rfl))) de_int)) (de_cmp (or_eq hu) eq_ops (de_val (pe_var (i := 3) rfl (.inl rfl))) (de_ixA hK hu (de_val (pe_var (i := 0) rfl (.inl rfl))) de_int))))) rfl)))))
  dss_nil)
  (dss_one (ds_retX (dxB (dx_call ⟨A.f1, hr, gu, Z.g_put_together, Z.F1.kp⟩ rfl (bi1 Z) (da_cons (de_val (pe_var (i := 2) rfl (.inl rfl))) (da_cons (de_strip (dx_lc rfl hN (diB (di_any hK (de_sl hK (de_val (pe_var (i := 0) rfl (.inl rfl))) (do_some de_int) do_none)) rfl) (blkOk_by (N := N0) (sc := defScope (top 18)) (own := [("one", 4)]) (by decide +kernel)) (fun _ _ _ _ _ => (dg_name (i := 4) hN rfl (.inl rfl) (.inr rfl))) (fun _ _ _ _ _ => dts_nil) (fun _ _ _ _ _ => deB (de_strip (dx_call ⟨A.f0, hr, gu, Z.g_truth_of, Z.F0.kp⟩ rfl (bi0 Z) (da_cons (de_val (pe_var (i := 4) rfl (.inl rfl))) (da_cons (de_val (pe_var (i := 1) rfl (.inr (.inl rfl)))) da_nil)))) rfl))) da_nil))) rfl))))))
theorem ok1 (Z : Fx K mg cla fds) (A : All P w K mg base cla fds n) : FnG P w K mg base CXn (n + 1) (He.ga K "put_together") (fds 1) ps1 (spD ⟨K, cla⟩ (callF (n + 1) 1)) :=
  FnG.of Z.F1 sc1 (spD_len rfl) fun cd Ar fr s H vs Q E hr gu h => by
  have hK : (⟨K, cla⟩ : RX).K = K := rfl
  have hN := (sc1).nd
  have hu := hr.units
  have hu5 := units65 hr
  refine ⟨tDS ⟨K, cla⟩ Wf [] (bd1 (callF n)), PSs.nox ?_, fn_core (p := false) (np := 2) (nl := 1) (body := bd1 (callF n)) (N := N1) (Wx := Wf) rfl h⟩
  exact (dss_cons (ds_if (dt_cmp (or_eq hu) eq_ops (de_val (pe_var (i := 0) rfl (.inl rfl))) (de_kon Z.k_NOT rfl))
  (dss_one (ds_retX (dxB (dx_of (de_if (dt_cmp or_is is_ops (de_ixA hK hu (de_val (pe_var (i := 1) rfl (.inl rfl))) de_int) de_non) de_non (de_not hK (de_ixA hK hu (de_val (pe_var (i := 1) rfl (.inl rfl))) de_int)))) rfl)))
  dss_nil)
  (dss_cons (ds_setX (i := 2) hN rfl (.inl rfl) (dxB (dx_of (de_cmp (or_eq hu) eq_ops (de_val (pe_var (i := 0) rfl (.inl rfl))) (de_kon Z.k_OR rfl))) rfl))
  (dss_cons (ds_if (dt_cmp (or_inA hu5) inA_ops (de_val (pe_var (i := 2) rfl (.inl rfl))) (de_val (pe_var (i := 1) rfl (.inl rfl))))
  (dss_one (ds_retX (dxB (dx_of (de_val (pe_var (i := 2) rfl (.inl rfl)))) rfl)))
  dss_nil)
  (dss_one (ds_retX (dxB (dx_of (de_if (dt_cmp (or_inA hu5) inA_ops de_non (de_val (pe_var (i := 1) rfl (.inl rfl)))) de_non (de_not hK (de_val (pe_var (i := 2) rfl (.inl rfl)))))) rfl))))))
theorem ok2 (Z : Fx K mg cla fds) (A : All P w K mg base cla fds n) : FnG P w K mg base CXn (n + 1) (He.ga K "number_of") (fds 2) ps2 (spD ⟨K, cla⟩ (callF (n + 1) 2)) :=
  FnG.of Z.F2 sc2 (spD_len rfl) fun cd Ar fr s H vs Q E hr gu h => by
  have hK : (⟨K, cla⟩ : RX).K = K := rfl
  have hN := (sc2).nd
  have hu := hr.units
  have hu5 := units65 hr
  refine ⟨tDS ⟨K, cla⟩ Wf [] (bd2 (callF n)), PSs.nox ?_, fn_core (p := false) (np := 3) (nl := 3) (body := bd2 (callF n)) (N := N2) (Wx := Wf) rfl h⟩
  exact (dss_cons (ds_setX (i := 3) hN rfl (.inl rfl) (dxB (dx_of (de_ixA hK hu (de_val (pe_var (i := 0) rfl (.inl rfl))) de_int)) rfl))
  (dss_cons (ds_if (dt_cmp (or_eq hu) eq_ops (de_val (pe_var (i := 3) rfl (.inl rfl))) (de_kon Z.k_NONE rfl))
  (dss_one (ds_retX (dxB (dx_of de_int) rfl)))
  dss_nil)
  (dss_cons (ds_if (dt_cmp (or_eq hu) eq_ops (de_val (pe_var (i := 3) rfl (.inl rfl))) (de_kon Z.k_OF rfl))
  (dss_one (ds_retX (dxB (dx_of (de_ixA hK hu (de_val (pe_var (i := 1) rfl (.inl rfl))) (de_ixA hK hu (de_val (pe_var (i := 0) rfl (.inl rfl))) de_int))) rfl)))
  dss_nil)
  (dss_cons (ds_setX (i := 4) hN rfl (.inl rfl) (dxB (dx_of (de_strip (dx_call ⟨A.f2, hr, gu, Z.g_number_of, Z.F2.kp⟩ rfl (bi2 Z) (da_cons (de_ixA hK hu (de_val (pe_var (i := 0) rfl (.inl rfl))) de_int) (da_cons (de_val (pe_var (i := 1) rfl (.inl rfl))) (da_cons (de_val (pe_var (i := 2) rfl (.inl rfl))) da_nil)))))) rfl))
  (dss_cons (ds_if (dt_cmp (or_eq hu) eq_ops (de_val (pe_var (i := 3) rfl (.inl rfl))) (de_kon Z.k_TIMES rfl))
  (dss_one (ds_retX (dxB (dx_of (de_bin or_mul mul_ops (de_ixA hK hu (de_val (pe_var (i := 0) rfl (.inl rfl))) de_int) (de_val (pe_var (i := 4) rfl (.inl rfl))))) rfl)))
  dss_nil)
  (dss_cons (ds_if (dt_cmp (or_inA hu5) inA_ops (de_val (pe_var (i := 3) rfl (.inl rfl))) (de_tup (da_cons (de_kon Z.k_WHERE rfl) (da_cons (de_kon Z.k_UNLESS rfl) da_nil))))
  (dss_one (ds_retX (dxB (dx_of (de_if (dt_cmp (or_eq hu) eq_ops (de_cmp or_is is_ops (de_strip (dx_call ⟨A.f0, hr, gu, Z.g_truth_of, Z.F0.kp⟩ rfl (bi0 Z) (da_cons (de_ixA hK hu (de_val (pe_var (i := 0) rfl (.inl rfl))) de_int) (da_cons (de_val (pe_var (i := 2) rfl (.inl rfl))) da_nil)))) de_bl) (de_cmp (or_eq hu) eq_ops (de_val (pe_var (i := 3) rfl (.inl rfl))) (de_kon Z.k_WHERE rfl))) (de_val (pe_var (i := 4) rfl (.inl rfl))) de_int)) rfl)))
  dss_nil)
  (dss_cons (ds_setX (i := 5) hN rfl (.inl rfl) (dxB (dx_of (de_strip (dx_call ⟨A.f2, hr, gu, Z.g_number_of, Z.F2.kp⟩ rfl (bi2 Z) (da_cons (de_ixA hK hu (de_val (pe_var (i := 0) rfl (.inl rfl))) de_int) (da_cons (de_val (pe_var (i := 1) rfl (.inl rfl))) (da_cons (de_val (pe_var (i := 2) rfl (.inl rfl))) da_nil)))))) rfl))
  (dss_cons (ds_if (dt_cmp (or_eq hu) eq_ops (de_val (pe_var (i := 3) rfl (.inl rfl))) (de_kon Z.k_PLUS rfl))
  (dss_one (ds_retX (dxB (dx_of (de_bin or_add add_ops (de_val (pe_var (i := 4) rfl (.inl rfl))) (de_val (pe_var (i := 5) rfl (.inl rfl))))) rfl)))
  dss_nil)
  (dss_cons (ds_if (dt_cmp (or_eq hu) eq_ops (de_val (pe_var (i := 3) rfl (.inl rfl))) (de_kon Z.k_REST rfl))
  (dss_one (ds_retX (dxB (dx_of (de_callB (cr_maxQ rfl) max_ok rfl Z.b_max boot_max (da_cons de_int (da_cons (de_bin or_sub sub_ops (de_val (pe_var (i := 4) rfl (.inl rfl))) (de_val (pe_var (i := 5) rfl (.inl rfl)))) da_nil)))) rfl)))
  dss_nil)
  (dss_one (ds_retX (dxB (dx_of (de_if (dt_cmp (or_eq hu) eq_ops (de_val (pe_var (i := 3) rfl (.inl rfl))) (de_kon Z.k_BOTH rfl)) (de_callB (cr_minQ rfl) min_ok rfl Z.b_min boot_min (da_cons (de_val (pe_var (i := 4) rfl (.inl rfl))) (da_cons (de_val (pe_var (i := 5) rfl (.inl rfl))) da_nil))) (de_callB (cr_maxQ rfl) max_ok rfl Z.b_max boot_max (da_cons (de_val (pe_var (i := 4) rfl (.inl rfl))) (da_cons (de_val (pe_var (i := 5) rfl (.inl rfl))) da_nil))))) rfl))))))))))))
theorem ok3 (Z : Fx K mg cla fds) (A : All P w K mg base cla fds n) : FnG P w K mg base CXn (n + 1) (He.ga K "names_in") (fds 3) ps3 (spD ⟨K, cla⟩ (callF (n + 1) 3)) :=
  FnG.of Z.F3 sc3 (spD_len rfl) fun cd Ar fr s H vs Q E hr gu h => by
  have hK : (⟨K, cla⟩ : RX).K = K := rfl
  have hN := (sc3).nd
  have hu := hr.units
  have hu5 := units65 hr
  refine ⟨tDS ⟨K, cla⟩ Wf [] (bd3 (callF n)), PSs.nox ?_, fn_core (p := false) (np := 1) (nl := 3) (body := bd3 (callF n)) (N := N3) (Wx := Wf) rfl h⟩
  exact (dss_cons (ds_parX2 (i := 1) (j := 2) rfl hN rfl rfl (by decide) rfl rfl (dax_cons (dxB dx_dnew rfl) (dax_cons (dxB (dx_lst (da_cons (de_val (pe_var (i := 0) rfl (.inl rfl))) da_nil)) rfl) dax_nil)) (by rfl))
  (dss_cons (ds_while nopass (dt_cmp (or_ne hu) ne_ops (de_own (pe_var (i := 2) rfl (.inl rfl))) (de_strip (dx_lst da_nil)))
  (dss_cons (ds_setX (i := 3) hN rfl (.inl rfl) (dxB (dx_of (de_pop hK mt_pop PySem.F.slot_list_pop PySem.F.type_list_pop (pe_var (i := 2) rfl (.inl rfl)))) rfl))
  (dss_one (ds_if (dt_cmp (or_eq hu) eq_ops (de_ixA hK hu (de_val (pe_var (i := 3) rfl (.inl rfl))) de_int) (de_kon Z.k_OF rfl))
  (dss_one (ds_putK hu5 (deB de_bl rfl) (pe_var (i := 1) rfl (.inl rfl)) (de_ixA hK hu (de_val (pe_var (i := 3) rfl (.inl rfl))) de_int)))
  (dss_one (ds_if (dt_cmp (or_ne hu) ne_ops (de_ixA hK hu (de_val (pe_var (i := 3) rfl (.inl rfl))) de_int) (de_kon Z.k_NONE rfl))
  (dss_cons (ds_expr (de_mth hK PySem.F.slot_list_append PySem.F.type_list_append mt_append append_eff (pe_var (i := 2) rfl (.inl rfl)) (daB (da_cons (de_ixA hK hu (de_val (pe_var (i := 3) rfl (.inl rfl))) de_int) da_nil) rfl)))
  (dss_one (ds_if (dt_cmp (or_inA hu5) inA_ops (de_ixA hK hu (de_val (pe_var (i := 3) rfl (.inl rfl))) de_int) (de_kon Z.k_PAIRS rfl))
  (dss_one (ds_expr (de_mth hK PySem.F.slot_list_append PySem.F.type_list_append mt_append append_eff (pe_var (i := 2) rfl (.inl rfl)) (daB (da_cons (de_ixA hK hu (de_val (pe_var (i := 3) rfl (.inl rfl))) de_int) da_nil) rfl))))
  dss_nil)))
  dss_nil))))))
  (dss_one (ds_retX (dxB (dx_of (de_callTy call_tuple_of tuple_ok rfl Z.b_tuple boot_tuple (da_cons (de_callB (cr_srt rfl) srt_ok rfl Z.b_sorted boot_sorted (da_cons (de_own (pe_var (i := 1) rfl (.inl rfl))) da_nil)) da_nil))) rfl)))))
theorem ok4 (Z : Fx K mg cla fds) (A : All P w K mg base cla fds n) : FnG P w K mg base CXn (n + 1) (He.ga K "replaced") (fds 4) ps4 (spD ⟨K, cla⟩ (callF (n + 1) 4)) :=
  FnG.of Z.F4 sc4 (spD_len rfl) fun cd Ar fr s H vs Q E hr gu h => by
  have hK : (⟨K, cla⟩ : RX).K = K := rfl
  have hN := (sc4).nd
  have hu := hr.units
  have hu5 := units65 hr
  refine ⟨tDS ⟨K, cla⟩ Wf [] (bd4 (callF n)), PSs.nox ?_, fn_core (p := false) (np := 2) (nl := 2) (body := bd4 (callF n)) (N := N4) (Wx := Wf) rfl h⟩
  exact (dss_cons (ds_setX (i := 2) hN rfl (.inl rfl) (dxB (dx_of (de_ixA hK hu (de_val (pe_var (i := 0) rfl (.inl rfl))) de_int)) rfl))
  (dss_cons (ds_if (dt_cmp (or_eq hu) eq_ops (de_val (pe_var (i := 2) rfl (.inl rfl))) (de_kon Z.k_OF rfl))
  (dss_one (ds_retX (dxB (dx_of (de_get2 hu5 (de_val (pe_var (i := 1) rfl (.inl rfl))) (de_ixA hK hu (de_val (pe_var (i := 0) rfl (.inl rfl))) de_int) (de_val (pe_var (i := 0) rfl (.inl rfl))) ⟨rfl, rfl, rfl, rfl⟩)) rfl)))
  dss_nil)
  (dss_cons (ds_if (dt_cmp (or_eq hu) eq_ops (de_val (pe_var (i := 2) rfl (.inl rfl))) (de_kon Z.k_NONE rfl))
  (dss_one (ds_retX (dxB (dx_of (de_val (pe_var (i := 0) rfl (.inl rfl)))) rfl)))
  dss_nil)
  (dss_cons (ds_setX (i := 3) hN rfl (.inl rfl) (dxB (dx_of (de_strip (dx_call ⟨A.f4, hr, gu, Z.g_replaced, Z.F4.kp⟩ rfl (bi4 Z) (da_cons (de_ixA hK hu (de_val (pe_var (i := 0) rfl (.inl rfl))) de_int) (da_cons (de_val (pe_var (i := 1) rfl (.inl rfl))) da_nil))))) rfl))
  (dss_one (ds_retX (dxB (dx_of (de_if (dt_cmp (or_inA hu5) inA_ops (de_val (pe_var (i := 2) rfl (.inl rfl))) (de_kon Z.k_PAIRS rfl)) (de_tup (da_cons (de_val (pe_var (i := 2) rfl (.inl rfl))) (da_cons (de_val (pe_var (i := 3) rfl (.inl rfl))) (da_cons (de_strip (dx_call ⟨A.f4, hr, gu, Z.g_replaced, Z.F4.kp⟩ rfl (bi4 Z) (da_cons (de_ixA hK hu (de_val (pe_var (i := 0) rfl (.inl rfl))) de_int) (da_cons (de_val (pe_var (i := 1) rfl (.inl rfl))) da_nil)))) da_nil)))) (de_tup (da_cons (de_val (pe_var (i := 2) rfl (.inl rfl))) (da_cons (de_val (pe_var (i := 3) rfl (.inl rfl))) (da_cons (de_ixA hK hu (de_val (pe_var (i := 0) rfl (.inl rfl))) de_int) da_nil)))))) rfl)))))))
theorem ok5 (Z : Fx K mg cla fds) (A : All P w K mg base cla fds n) : FnG P w K mg base CXn (n + 1) (He.ga K "_law_pen") (fds 5) ps5 (spD ⟨K, cla⟩ (callF (n + 1) 5)) :=
  FnG.of Z.F5 sc5 (spD_len rfl) fun cd Ar fr s H vs Q E hr gu h => by
  have hK : (⟨K, cla⟩ : RX).K = K := rfl
  have hN := (sc5).nd
  have hu := hr.units
  have hu5 := units65 hr
  refine ⟨tDS ⟨K, cla⟩ Wf [] (bd5 (callF n)), PSs.nox ?_, fn_core (p := false) (np := 1) (nl := 0) (body := bd5 (callF n)) (N := N5) (Wx := Wf) rfl h⟩
  exact (dss_one (ds_retX (dxB (dx_lst (da_cons (de_strip (dx_callTy call_list_of list_okW rfl Z.b_list boot_list (da_cons (de_sl hK (de_val (pe_var (i := 0) rfl (.inl rfl))) do_none (do_some de_int)) da_nil))) (da_cons de_int (da_cons de_int da_nil)))) rfl)))
theorem ok6 (Z : Fx K mg cla fds) (A : All P w K mg base cla fds n) : FnG P w K mg base CXn (n + 1) (He.ga K "_law_draw") (fds 6) ps6 (spD ⟨K, cla⟩ (callF (n + 1) 6)) :=
  FnG.of Z.F6 sc6 (spD_len rfl) fun cd Ar fr s H vs Q E hr gu h => by
  have hK : (⟨K, cla⟩ : RX).K = K := rfl
  have hN := (sc6).nd
  have hu := hr.units
  have hu5 := units65 hr
  refine ⟨tDS ⟨K, cla⟩ Wf [0] (bd6 (callF n)), PSs.nox ?_, fn_core (p := true) (np := 2) (nl := 5) (body := bd6 (callF n)) (N := N6) (Wx := Wf) rfl h⟩
  exact (dss_cons (ds_if (dt_cmp or_lt ord_ops (de_val (pe_var (i := 1) rfl (.inl rfl))) de_int)
  (dss_one (ds_retX (dxB (dx_of de_int) rfl)))
  dss_nil)
  (dss_cons (ds_if (dt_cmp or_gt ord_ops (de_ownIxA hK hu (pe_var (i := 0) rfl (.inl rfl)) de_int) de_int)
  (dss_cons (ds_setX (i := 5) hN rfl (.inl rfl) (dxB (dx_of (de_bin op_mod mod_ops (de_callTy call_int1 int_ok rfl Z.b_int boot_int (da_cons (de_ownIxA hK hu (pe_var (i := 0) rfl (.inl rfl)) de_int) da_nil)) (de_val (pe_var (i := 1) rfl (.inl rfl))))) rfl))
  (dss_cons (ds_put (deB (de_bin op_fdivW fdv_ops (de_callTy call_int1 int_ok rfl Z.b_int boot_int (da_cons (de_ownIxA hK hu (pe_var (i := 0) rfl (.inl rfl)) de_int) da_nil)) (de_val (pe_var (i := 1) rfl (.inl rfl)))) rfl) (pe_var (i := 0) rfl (.inl rfl)) de_int)
  (dss_one (ds_retX (dxB (dx_of (de_val (pe_var (i := 5) rfl (.inl rfl)))) rfl)))))
  dss_nil)
  (dss_cons (ds_setX (i := 2) hN rfl (.inl rfl) (dxB (dx_of (de_ownIxA hK hu (pe_var (i := 0) rfl (.inl rfl)) de_int)) rfl))
  (dss_cons (ds_put (deB (de_bin or_add add_ops (de_val (pe_var (i := 2) rfl (.inl rfl))) de_int) rfl) (pe_var (i := 0) rfl (.inl rfl)) de_int)
  (dss_cons (ds_setX (i := 3) hN rfl (.inl rfl) (dxB (dx_of (de_bin or_add add_ops (de_bin or_mul mul_ops de_int (de_val (pe_var (i := 2) rfl (.inl rfl)))) de_int)) rfl))
  (dss_cons (ds_if (dt_cmp (or_ne hu) ne_ops (de_ownIxA hK hu (pe_var (i := 0) rfl (.inl rfl)) de_int) (de_strip (dx_lst da_nil)))
  (dss_one (ds_setX (i := 3) hN rfl (.inl rfl) (dxB (dx_of (de_ixA hK hu (de_ownIxA hK hu (pe_var (i := 0) rfl (.inl rfl)) de_int) (de_bin op_mod mod_ops (de_callTy call_int1 int_ok rfl Z.b_int boot_int (da_cons (de_val (pe_var (i := 2) rfl (.inl rfl))) da_nil)) (de_callB cr_lenA lenA_ok rfl Z.b_len boot_len (da_cons (de_ownIxA hK hu (pe_var (i := 0) rfl (.inl rfl)) de_int) da_nil))))) rfl)))
  dss_nil)
  (dss_cons (ds_if (dt_bool (dw_and (dt_cmp or_lt ord_ops (de_val (pe_var (i := 2) rfl (.inl rfl))) (de_callB cr_lenA lenA_ok rfl Z.b_len boot_len (da_cons (de_ownIxA hK hu (pe_var (i := 0) rfl (.inl rfl)) de_int) da_nil))) (dw_and1 (dt_cmp or_ge ord_ops (de_callB call_abs abs_ok rfl Z.b_abs boot_abs (da_cons (de_val (pe_var (i := 3) rfl (.inl rfl))) da_nil)) (de_bin op_pow pow_ops de_int de_int)))))
  (dss_cons (ds_setX (i := 6) hN rfl (.inl rfl) (dxB (dx_of (de_bin or_add add_ops (de_bin or_mul mul_ops de_int (de_bin or_sub sub_ops (de_callB call_abs abs_ok rfl Z.b_abs boot_abs (da_cons (de_val (pe_var (i := 3) rfl (.inl rfl))) da_nil)) (de_bin op_pow pow_ops de_int de_int))) (de_callTy call_int1 int_ok rfl Z.b_int boot_int (da_cons (de_cmp or_lt ord_ops (de_val (pe_var (i := 3) rfl (.inl rfl))) de_int) da_nil)))) rfl))
  (dss_cons (ds_put (deB (de_bin op_fdivW fdv_ops (de_callTy call_int1 int_ok rfl Z.b_int boot_int (da_cons (de_val (pe_var (i := 6) rfl (.inl rfl))) da_nil)) (de_val (pe_var (i := 1) rfl (.inl rfl)))) rfl) (pe_var (i := 0) rfl (.inl rfl)) de_int)
  (dss_one (ds_retX (dxB (dx_of (de_bin op_mod mod_ops (de_callTy call_int1 int_ok rfl Z.b_int boot_int (da_cons (de_val (pe_var (i := 6) rfl (.inl rfl))) da_nil)) (de_val (pe_var (i := 1) rfl (.inl rfl))))) rfl)))))
  dss_nil)
  (dss_cons (ds_setX (i := 4) hN rfl (.inl rfl) (dxB (dx_of (de_bin op_mod mod_ops (de_callTy call_int1 int_ok rfl Z.b_int boot_int (da_cons (de_bin op_pow pow_ops (de_bin or_add add_ops (de_bin or_add add_ops (de_bin op_mod mod_ops (de_callTy call_int1 int_ok rfl Z.b_int boot_int (da_cons (de_val (pe_var (i := 3) rfl (.inl rfl))) da_nil)) de_int) (de_bin or_mul mul_ops de_int (de_val (pe_var (i := 2) rfl (.inl rfl))))) de_int) de_int) da_nil)) de_int)) rfl))
  (dss_cons (ds_setX (i := 4) hN rfl (.inl rfl) (dxB (dx_of (de_bin op_mod mod_ops (de_callTy call_int1 int_ok rfl Z.b_int boot_int (da_cons (de_bin op_pow pow_ops (de_bin or_add add_ops (de_bin or_add add_ops (de_bin or_mul mul_ops (de_val (pe_var (i := 4) rfl (.inl rfl))) (de_bin or_add add_ops (de_bin or_mul mul_ops de_int (de_val (pe_var (i := 2) rfl (.inl rfl)))) de_int)) (de_bin or_mul mul_ops (de_bin or_mul mul_ops de_int (de_val (pe_var (i := 2) rfl (.inl rfl)))) (de_val (pe_var (i := 2) rfl (.inl rfl))))) de_int) de_int) da_nil)) de_int)) rfl))
  (dss_one (ds_retX (dxB (dx_of (de_bin op_mod mod_ops (de_callTy call_int1 int_ok rfl Z.b_int boot_int (da_cons (de_bin op_fdivW fdv_ops (de_val (pe_var (i := 4) rfl (.inl rfl))) de_int) da_nil)) (de_val (pe_var (i := 1) rfl (.inl rfl))))) rfl))))))))))))
theorem ok7 (Z : Fx K mg cla fds) (A : All P w K mg base cla fds n) : FnG P w K mg base CXn (n + 1) (He.ga K "_law_pick") (fds 7) ps7 (spD ⟨K, cla⟩ (callF (n + 1) 7)) :=
  FnG.of Z.F7 sc7 (spD_len rfl) fun cd Ar fr s H vs Q E hr gu h => by
  have hK : (⟨K, cla⟩ : RX).K = K := rfl
  have hN := (sc7).nd
  have hu := hr.units
  have hu5 := units65 hr
  refine ⟨tDS ⟨K, cla⟩ Wf [0] (bd7 (callF n)), PSs.nox ?_, fn_core (p := true) (np := 2) (nl := 0) (body := bd7 (callF n)) (N := N7) (Wx := Wf) rfl h⟩
  exact (dss_one (ds_retX (dxB (dx_of (de_ixA hK hu (de_val (pe_var (i := 1) rfl (.inl rfl))) (de_strip (dx_callO ⟨A.f6, hr, gu, Z.g__law_draw, Z.F6.kp⟩ rfl (bi6 Z) (pe_var (i := 0) rfl (.inl rfl)) (daB (da_cons (de_callB cr_lenA lenA_ok rfl Z.b_len boot_len (da_cons (de_val (pe_var (i := 1) rfl (.inl rfl))) da_nil)) da_nil) rfl))))) rfl)))
theorem ok8 (Z : Fx K mg cla fds) (A : All P w K mg base cla fds n) : FnG P w K mg base CXn (n + 1) (He.ga K "_law_names") (fds 8) ps8 (spD ⟨K, cla⟩ (callF (n + 1) 8)) :=
  FnG.of Z.F8 sc8 (spD_len rfl) fun cd Ar fr s H vs Q E hr gu h => by
  have hK : (⟨K, cla⟩ : RX).K = K := rfl
  have hN := (sc8).nd
  have hu := hr.units
  have hu5 := units65 hr
  refine ⟨tDS ⟨K, cla⟩ Wf [0] (bd8 (callF n)), PSs.nox ?_, fn_core (p := true) (np := 2) (nl := 5) (body := bd8 (callF n)) (N := N8) (Wx := Wf) rfl h⟩
  exact (dss_cons (ds_setX (i := 2) hN rfl (.inr rfl) (dxB (dx_of de_str) rfl))
  (dss_cons (ds_asg (deB (de_tup (da_cons (de_strip (dx_callO ⟨A.f6, hr, gu, Z.g__law_draw, Z.F6.kp⟩ rfl (bi6 Z) (pe_var (i := 0) rfl (.inl rfl)) (daB (da_cons de_int da_nil) rfl))) (da_cons (de_strip (dx_callO ⟨A.f7, hr, gu, Z.g__law_pick, Z.F7.kp⟩ rfl (bi7 Z) (pe_var (i := 0) rfl (.inl rfl)) (daB (da_cons (de_strip (dx_lst (da_cons de_int (da_cons de_int (da_cons de_int (da_cons de_int (da_cons de_int (da_cons de_int da_nil)))))))) da_nil) rfl))) da_nil))) rfl) (dg_tup hK rfl (dgs_cons (dg_name (i := 4) hN rfl (.inr rfl) (.inl rfl)) (dgs_cons (dg_name (i := 5) hN rfl (.inr rfl) (.inl rfl)) dgs_nil))))
  (dss_cons (ds_setX (i := 3) hN rfl (.inr rfl) (dxB (dx_of (de_strip (dx_callO ⟨A.f7, hr, gu, Z.g__law_pick, Z.F7.kp⟩ rfl (bi7 Z) (pe_var (i := 0) rfl (.inl rfl)) (daB (da_cons (de_strip (dx_lst (da_cons de_str (da_cons de_str (da_cons de_str (da_cons de_str da_nil)))))) da_nil) rfl)))) rfl))
  (dss_one (ds_retX (dxB (dx_lc rfl hN (diB (di_range1 rfl Z.b_range (da_cons (de_val (pe_var (i := 1) rfl (.inl rfl))) da_nil)) rfl) (blkOk_by (N := N8) (sc := defScope (top 27)) (own := [("at", 6)]) (by decide +kernel)) (fun _ _ _ _ _ => (dg_name (i := 6) hN rfl (.inl rfl) (.inr rfl))) (fun _ _ _ _ _ => dts_nil) (fun _ _ _ _ _ => deB (de_bin or_add add_ops (de_ixA hK hu (de_val (pe_var (i := 2) rfl (.inr (.inl rfl)))) (de_bin op_mod mod_ops (de_callTy call_int1 int_ok rfl Z.b_int boot_int (da_cons (de_bin or_add add_ops (de_val (pe_var (i := 4) rfl (.inr (.inl rfl)))) (de_bin or_mul mul_ops (de_val (pe_var (i := 5) rfl (.inr (.inl rfl)))) (de_val (pe_var (i := 6) rfl (.inl rfl))))) da_nil)) de_int)) (de_val (pe_var (i := 3) rfl (.inr (.inl rfl))))) rfl)) rfl))))))
theorem ok9 (Z : Fx K mg cla fds) (A : All P w K mg base cla fds n) : FnG P w K mg base CXn (n + 1) (He.ga K "_law_condition") (fds 9) ps9 (spD ⟨K, cla⟩ (callF (n + 1) 9)) :=
  FnG.of Z.F9 sc9 (spD_len rfl) fun cd Ar fr s H vs Q E hr gu h => by
  have hK : (⟨K, cla⟩ : RX).K = K := rfl
  have hN := (sc9).nd
  have hu := hr.units
  have hu5 := units65 hr
  refine ⟨tDS ⟨K, cla⟩ Wf [0] (bd9 (callF n)), PSs.nox ?_, fn_core (p := true) (np := 2) (nl := 2) (body := bd9 (callF n)) (N := N9) (Wx := Wf) rfl h⟩
  exact (dss_cons (ds_par (i := 2) (j := 3) rfl hN rfl rfl (by decide) rfl rfl (daB (da_cons (de_strip (dx_callO ⟨A.f7, hr, gu, Z.g__law_pick, Z.F7.kp⟩ rfl (bi7 Z) (pe_var (i := 0) rfl (.inl rfl)) (daB (da_cons (de_strip (dx_lst (da_cons de_str (da_cons de_str (da_cons de_str (da_cons de_str da_nil)))))) da_nil) rfl))) (da_cons (de_strip (dx_callO ⟨A.f7, hr, gu, Z.g__law_pick, Z.F7.kp⟩ rfl (bi7 Z) (pe_var (i := 0) rfl (.inl rfl)) (daB (da_cons (de_val (pe_var (i := 1) rfl (.inl rfl))) da_nil) rfl))) da_nil)) rfl) (by rfl))
  (dss_one (ds_retX (dxB (dx_of (de_if (dt_cmp (or_eq hu) eq_ops (de_val (pe_var (i := 2) rfl (.inl rfl))) de_str) (de_tup (da_cons (de_val (pe_var (i := 2) rfl (.inl rfl))) (da_cons (de_val (pe_var (i := 3) rfl (.inl rfl))) da_nil))) (de_tup (da_cons (de_val (pe_var (i := 2) rfl (.inl rfl))) (da_cons (de_val (pe_var (i := 3) rfl (.inl rfl))) (da_cons (de_strip (dx_callO ⟨A.f7, hr, gu, Z.g__law_pick, Z.F7.kp⟩ rfl (bi7 Z) (pe_var (i := 0) rfl (.inl rfl)) (daB (da_cons (de_strip (dx_lst (da_cons de_int (da_cons de_int (da_cons de_int (da_cons de_int (da_cons (de_neg de_int) (da_cons (de_bin op_pow pow_ops de_int de_int) da_nil)))))))) da_nil) rfl))) da_nil)))))) rfl))))
theorem ok10 (Z : Fx K mg cla fds) (A : All P w K mg base cla fds n) : FnG P w K mg base CXn (n + 1) (He.ga K "_law_test") (fds 10) ps10 (spD ⟨K, cla⟩ (callF (n + 1) 10)) :=
  FnG.of Z.F10 sc10 (spD_len rfl) fun cd Ar fr s H vs Q E hr gu h => by
  have hK : (⟨K, cla⟩ : RX).K = K := rfl
  have hN := (sc10).nd
  have hu := hr.units
  have hu5 := units65 hr
  refine ⟨tDS ⟨K, cla⟩ Wf [0] (bd10 (callF n)), PSs.nox ?_, fn_core (p := true) (np := 3) (nl := 1) (body := bd10 (callF n)) (N := N10) (Wx := Wf) rfl h⟩
  exact (dss_cons (ds_setX (i := 3) hN rfl (.inl rfl) (dxB (dx_of (de_strip (dx_callO ⟨A.f6, hr, gu, Z.g__law_draw, Z.F6.kp⟩ rfl (bi6 Z) (pe_var (i := 0) rfl (.inl rfl)) (daB (da_cons de_int da_nil) rfl)))) rfl))
  (dss_cons (ds_if (dt_bool (dw_or (dt_cmp (or_eq hu) eq_ops (de_val (pe_var (i := 2) rfl (.inl rfl))) de_int) (dw_or1 (dt_cmp or_lt ord_ops (de_val (pe_var (i := 3) rfl (.inl rfl))) de_int))))
  (dss_one (ds_retX (dxB (dx_callO ⟨A.f9, hr, gu, Z.g__law_condition, Z.F9.kp⟩ rfl (bi9 Z) (pe_var (i := 0) rfl (.inl rfl)) (daB (da_cons (de_val (pe_var (i := 1) rfl (.inl rfl))) da_nil) rfl)) rfl)))
  dss_nil)
  (dss_cons (ds_if (dt_cmp (or_eq hu) eq_ops (de_val (pe_var (i := 3) rfl (.inl rfl))) de_int)
  (dss_one (ds_retX (dxB (dx_of (de_tup (da_cons de_str (da_cons (de_strip (dx_callO ⟨A.f10, hr, gu, Z.g__law_test, Z.F10.kp⟩ rfl (bi10 Z) (pe_var (i := 0) rfl (.inl rfl)) (daB (da_cons (de_val (pe_var (i := 1) rfl (.inl rfl))) (da_cons (de_bin or_sub sub_ops (de_val (pe_var (i := 2) rfl (.inl rfl))) de_int) da_nil)) rfl))) da_nil)))) rfl)))
  dss_nil)
  (dss_one (ds_retX (dxB (dx_of (de_tup (da_cons (de_strip (dx_callO ⟨A.f7, hr, gu, Z.g__law_pick, Z.F7.kp⟩ rfl (bi7 Z) (pe_var (i := 0) rfl (.inl rfl)) (daB (da_cons (de_strip (dx_lst (da_cons de_str (da_cons de_str da_nil)))) da_nil) rfl))) (da_cons (de_strip (dx_callO ⟨A.f10, hr, gu, Z.g__law_test, Z.F10.kp⟩ rfl (bi10 Z) (pe_var (i := 0) rfl (.inl rfl)) (daB (da_cons (de_val (pe_var (i := 1) rfl (.inl rfl))) (da_cons (de_bin or_sub sub_ops (de_val (pe_var (i := 2) rfl (.inl rfl))) de_int) da_nil)) rfl))) (da_cons (de_strip (dx_callO ⟨A.f10, hr, gu, Z.g__law_test, Z.F10.kp⟩ rfl (bi10 Z) (pe_var (i := 0) rfl (.inl rfl)) (daB (da_cons (de_val (pe_var (i := 1) rfl (.inl rfl))) (da_cons (de_bin or_sub sub_ops (de_val (pe_var (i := 2) rfl (.inl rfl))) de_int) da_nil)) rfl))) da_nil))))) rfl))))))
theorem ok11 (Z : Fx K mg cla fds) (A : All P w K mg base cla fds n) : FnG P w K mg base CXn (n + 1) (He.ga K "_law_question") (fds 11) ps11 (spD ⟨K, cla⟩ (callF (n + 1) 11)) :=
  FnG.of Z.F11 sc11 (spD_len rfl) fun cd Ar fr s H vs Q E hr gu h => by
  have hK : (⟨K, cla⟩ : RX).K = K := rfl
  have hN := (sc11).nd
  have hu := hr.units
  have hu5 := units65 hr
  refine ⟨tDS ⟨K, cla⟩ Wf [0] (bd11 (callF n)), PSs.nox ?_, fn_core (p := true) (np := 4) (nl := 2) (body := bd11 (callF n)) (N := N11) (Wx := Wf) rfl h⟩
  exact (dss_cons (ds_setX (i := 4) hN rfl (.inl rfl) (dxB (dx_of (de_strip (dx_callO ⟨A.f6, hr, gu, Z.g__law_draw, Z.F6.kp⟩ rfl (bi6 Z) (pe_var (i := 0) rfl (.inl rfl)) (daB (da_cons de_int da_nil) rfl)))) rfl))
  (dss_cons (ds_if (dt_bool (dw_or (dt_cmp (or_eq hu) eq_ops (de_val (pe_var (i := 3) rfl (.inl rfl))) de_int) (dw_or1 (dt_cmp or_lt ord_ops (de_val (pe_var (i := 4) rfl (.inl rfl))) de_int))))
  (dss_one (ds_retX (dxB (dx_of (de_if (dt_cmp (or_eq hu) eq_ops (de_strip (dx_callO ⟨A.f6, hr, gu, Z.g__law_draw, Z.F6.kp⟩ rfl (bi6 Z) (pe_var (i := 0) rfl (.inl rfl)) (daB (da_cons de_int da_nil) rfl))) de_int) (de_tup (da_cons de_str da_nil)) (de_tup (da_cons de_str (da_cons (de_strip (dx_callO ⟨A.f7, hr, gu, Z.g__law_pick, Z.F7.kp⟩ rfl (bi7 Z) (pe_var (i := 0) rfl (.inl rfl)) (daB (da_cons (de_val (pe_var (i := 1) rfl (.inl rfl))) da_nil) rfl))) da_nil))))) rfl)))
  dss_nil)
  (dss_cons (ds_setX (i := 5) hN rfl (.inl rfl) (dxB (dx_of (de_strip (dx_callO ⟨A.f11, hr, gu, Z.g__law_question, Z.F11.kp⟩ rfl (bi11 Z) (pe_var (i := 0) rfl (.inl rfl)) (daB (da_cons (de_val (pe_var (i := 1) rfl (.inl rfl))) (da_cons (de_val (pe_var (i := 2) rfl (.inl rfl))) (da_cons (de_bin or_sub sub_ops (de_val (pe_var (i := 3) rfl (.inl rfl))) de_int) da_nil))) rfl)))) rfl))
  (dss_cons (ds_if (dt_cmp (or_eq hu) eq_ops (de_val (pe_var (i := 4) rfl (.inl rfl))) de_int)
  (dss_one (ds_retX (dxB (dx_of (de_tup (da_cons de_str (da_cons (de_val (pe_var (i := 5) rfl (.inl rfl))) (da_cons (de_strip (dx_callO ⟨A.f6, hr, gu, Z.g__law_draw, Z.F6.kp⟩ rfl (bi6 Z) (pe_var (i := 0) rfl (.inl rfl)) (daB (da_cons de_int da_nil) rfl))) da_nil))))) rfl)))
  dss_nil)
  (dss_cons (ds_if (dt_bool (dw_and (dt_cmp (or_eq hu) eq_ops (de_val (pe_var (i := 4) rfl (.inl rfl))) de_int) (dw_and1 (dt_cmp (or_ne hu) ne_ops (de_val (pe_var (i := 2) rfl (.inl rfl))) (de_strip (dx_lst da_nil))))))
  (dss_one (ds_retX (dxB (dx_of (de_tup (da_cons (de_strip (dx_callO ⟨A.f7, hr, gu, Z.g__law_pick, Z.F7.kp⟩ rfl (bi7 Z) (pe_var (i := 0) rfl (.inl rfl)) (daB (da_cons (de_strip (dx_lst (da_cons de_str (da_cons de_str da_nil)))) da_nil) rfl))) (da_cons (de_val (pe_var (i := 5) rfl (.inl rfl))) (da_cons (de_strip (dx_callO ⟨A.f10, hr, gu, Z.g__law_test, Z.F10.kp⟩ rfl (bi10 Z) (pe_var (i := 0) rfl (.inl rfl)) (daB (da_cons (de_val (pe_var (i := 2) rfl (.inl rfl))) (da_cons (de_callB (cr_minQ rfl) min_ok rfl Z.b_min boot_min (da_cons de_int (da_cons (de_bin or_sub sub_ops (de_val (pe_var (i := 3) rfl (.inl rfl))) de_int) da_nil))) da_nil)) rfl))) da_nil))))) rfl)))
  dss_nil)
  (dss_one (ds_retX (dxB (dx_of (de_tup (da_cons (de_strip (dx_callO ⟨A.f7, hr, gu, Z.g__law_pick, Z.F7.kp⟩ rfl (bi7 Z) (pe_var (i := 0) rfl (.inl rfl)) (daB (da_cons (de_strip (dx_lst (da_cons de_str (da_cons de_str (da_cons de_str (da_cons de_str (da_cons de_str da_nil))))))) da_nil) rfl))) (da_cons (de_val (pe_var (i := 5) rfl (.inl rfl))) (da_cons (de_strip (dx_callO ⟨A.f11, hr, gu, Z.g__law_question, Z.F11.kp⟩ rfl (bi11 Z) (pe_var (i := 0) rfl (.inl rfl)) (daB (da_cons (de_val (pe_var (i := 1) rfl (.inl rfl))) (da_cons (de_val (pe_var (i := 2) rfl (.inl rfl))) (da_cons (de_bin or_sub sub_ops (de_val (pe_var (i := 3) rfl (.inl rfl))) de_int) da_nil))) rfl))) da_nil))))) rfl))))))))
theorem ok12 (Z : Fx K mg cla fds) (A : All P w K mg base cla fds n) : FnG P w K mg base CXn (n + 1) (He.ga K "_law_inner") (fds 12) ps12 (spD ⟨K, cla⟩ (callF (n + 1) 12)) :=
  FnG.of Z.F12 sc12 (spD_len rfl) fun cd Ar fr s H vs Q E hr gu h => by
  have hK : (⟨K, cla⟩ : RX).K = K := rfl
  have hN := (sc12).nd
  have hu := hr.units
  have hu5 := units65 hr
  refine ⟨tDS ⟨K, cla⟩ Wf [] (bd12 (callF n)), PSs.nox ?_, fn_core (p := false) (np := 1) (nl := 1) (body := bd12 (callF n)) (N := N12) (Wx := Wf) rfl h⟩
  exact (dss_one (ds_retX (dxB (dx_lc rfl hN (diB (di_any hK (de_val (pe_var (i := 0) rfl (.inl rfl)))) rfl) (blkOk_by (N := N12) (sc := defScope (top 31)) (own := [("part", 1)]) (by decide +kernel)) (fun _ _ _ _ _ => (dg_name (i := 1) hN rfl (.inl rfl) (.inr rfl))) (fun _ _ _ _ _ => (dts_one (dt_truth hK (de_isi1 (t := .ty "tuple") hK isK0 rfl Z.b_isinstance (de_val (pe_var (i := 1) rfl (.inl rfl))) (pe_bltn (v := .ty "tuple") (u := .type "tuple") rfl Z.b_tuple boot_tuple rfl))))) (fun _ _ _ _ _ => deB (de_val (pe_var (i := 1) rfl (.inl rfl))) rfl)) rfl)))
theorem ok13 (Z : Fx K mg cla fds) (A : All P w K mg base cla fds n) : FnG P w K mg base CXn (n + 1) (He.ga K "_law_truth") (fds 13) ps13 (spD ⟨K, cla⟩ (callF (n + 1) 13)) :=
  FnG.of Z.F13 sc13 (spD_len rfl) fun cd Ar fr s H vs Q E hr gu h => by
  have hK : (⟨K, cla⟩ : RX).K = K := rfl
  have hN := (sc13).nd
  have hu := hr.units
  have hu5 := units65 hr
  refine ⟨tDS ⟨K, cla⟩ Wf [] (bd13 (callF n)), PSs.nox ?_, fn_core (p := false) (np := 2) (nl := 5) (body := bd13 (callF n)) (N := N13) (Wx := Wf) rfl h⟩
  exact (dss_cons (ds_if (dt_cmp (or_eq hu) eq_ops (de_ixA hK hu (de_val (pe_var (i := 0) rfl (.inl rfl))) de_int) de_str)
  (dss_one (ds_retX (dxB (dx_of (de_cmp or_is is_ops (de_ixA hK hu (de_val (pe_var (i := 1) rfl (.inr (.inl rfl)))) (de_ixA hK hu (de_val (pe_var (i := 0) rfl (.inl rfl))) de_int)) de_non)) rfl)))
  dss_nil)
  (dss_cons (ds_if (dt_cmp (or_inA hu5) inA_ops (de_ixA hK hu (de_val (pe_var (i := 0) rfl (.inl rfl))) de_int) (de_strip (dx_lst (da_cons de_str (da_cons de_str (da_cons de_str da_nil))))))
  (dss_cons (ds_setX (i := 4) hN rfl (.inl rfl) (dxB (dx_of (de_ixA hK hu (de_val (pe_var (i := 1) rfl (.inr (.inl rfl)))) (de_ixA hK hu (de_val (pe_var (i := 0) rfl (.inl rfl))) de_int))) rfl))
  (dss_cons (ds_if (dt_cmp or_is is_ops (de_val (pe_var (i := 4) rfl (.inl rfl))) de_non)
  (dss_one (ds_retX (dxB (dx_of de_non) rfl)))
  dss_nil)
  (dss_one (ds_retX (dxB (dx_of (de_ixA hK hu (de_strip (dx_disp (dps_cons (k := .inr "less") pe_str (de_cmp or_lt ord_ops (de_val (pe_var (i := 4) rfl (.inl rfl))) (de_ixA hK hu (de_val (pe_var (i := 0) rfl (.inl rfl))) de_int)) (dps_cons (k := .inr "most") pe_str (de_cmp or_lt ord_ops (de_val (pe_var (i := 4) rfl (.inl rfl))) (de_bin or_add add_ops (de_ixA hK hu (de_val (pe_var (i := 0) rfl (.inl rfl))) de_int) de_int)) (dps_cons (k := .inr "equal") pe_str (de_cmp (or_eq hu) eq_ops (de_bin or_sub sub_ops (de_val (pe_var (i := 4) rfl (.inl rfl))) (de_ixA hK hu (de_val (pe_var (i := 0) rfl (.inl rfl))) de_int)) de_int) dps_nil))))) (de_ixA hK hu (de_val (pe_var (i := 0) rfl (.inl rfl))) de_int))) rfl)))))
  dss_nil)
  (dss_cons (ds_setLc (i := 2) rfl hN rfl rfl (sw_true rfl rfl rfl rfl) (diB (di_any hK (de_sl hK (de_val (pe_var (i := 0) rfl (.inl rfl))) (do_some de_int) do_none)) rfl) (blkOk_by (N := N13) (sc := defScope (top 32)) (own := [("part", 5)]) (by decide +kernel)) (fun _ _ _ _ _ => (dg_name (i := 5) hN rfl (.inl rfl) (.inr rfl))) (fun _ _ _ _ _ => dts_nil) (fun _ _ _ _ _ => deB (de_strip (dx_call ⟨A.f13, hr, gu, Z.g__law_truth, Z.F13.kp⟩ rfl (bi13 Z) (da_cons (de_val (pe_var (i := 5) rfl (.inl rfl))) (da_cons (de_val (pe_var (i := 1) rfl (.inr (.inl rfl)))) da_nil)))) rfl))
  (dss_cons (ds_if (dt_cmp (or_eq hu) eq_ops (de_ixA hK hu (de_val (pe_var (i := 0) rfl (.inl rfl))) de_int) de_str)
  (dss_one (ds_retX (dxB (dx_of (de_getB hK (cv := [(some true, .bl false), (some false, .bl true)]) (pps_cons pe_bl pe_bl (pps_cons pe_bl pe_bl pps_nil)) (.cons ⟨rfl, (.bl false)⟩ (.cons ⟨rfl, (.bl true)⟩ Paired.nil)) (de_ownIxA hK hu (pe_var (i := 2) rfl (.inl rfl)) de_int) ⟨rfl, rfl, rfl, rfl⟩)) rfl)))
  dss_nil)
  (dss_cons (ds_setLc (i := 3) rfl hN rfl rfl (sw_true rfl rfl rfl rfl) (diB (di_any hK (de_own (pe_var (i := 2) rfl (.inl rfl)))) rfl) (blkOk_by (N := N13) (sc := defScope (top 32)) (own := [("truth", 6)]) (by decide +kernel)) (fun _ _ _ _ _ => (dg_name (i := 6) hN rfl (.inl rfl) (.inr rfl))) (fun _ _ _ _ _ => dts_nil) (fun _ _ _ _ _ => deB (de_pickB hK (cv := [(some false, .int (0)), (none, .int (1)), (some true, .int (2))]) (pps_cons pe_bl pe_int (pps_cons pe_non pe_int (pps_cons pe_bl pe_int pps_nil))) (.cons ⟨rfl, (.int (0))⟩ (.cons ⟨rfl, (.int (1))⟩ (.cons ⟨rfl, (.int (2))⟩ Paired.nil))) (de_val (pe_var (i := 6) rfl (.inl rfl)))) rfl))
  (dss_one (ds_retX (dxB (dx_of (de_ixA hK hu (de_strip (dx_lst (da_cons de_bl (da_cons de_non (da_cons de_bl da_nil))))) (de_if (dt_cmp (or_eq hu) eq_ops (de_ixA hK hu (de_val (pe_var (i := 0) rfl (.inl rfl))) de_int) de_str) (de_callB (cr_minQ rfl) min_ok rfl Z.b_min boot_min (da_cons (de_own (pe_var (i := 3) rfl (.inl rfl))) da_nil)) (de_callB (cr_maxQ rfl) max_ok rfl Z.b_max boot_max (da_cons (de_own (pe_var (i := 3) rfl (.inl rfl))) da_nil))))) rfl))))))))
theorem ok14 (Z : Fx K mg cla fds) (A : All P w K mg base cla fds n) : FnG P w K mg base CXn (n + 1) (He.ga K "_law_number") (fds 14) ps14 (spD ⟨K, cla⟩ (callF (n + 1) 14)) :=
  FnG.of Z.F14 sc14 (spD_len rfl) fun cd Ar fr s H vs Q E hr gu h => by
  have hK : (⟨K, cla⟩ : RX).K = K := rfl
  have hN := (sc14).nd
  have hu := hr.units
  have hu5 := units65 hr
  refine ⟨tDS ⟨K, cla⟩ Wf [] (bd14 (callF n)), PSs.nox ?_, fn_core (p := false) (np := 3) (nl := 6) (body := bd14 (callF n)) (N := N14) (Wx := Wf) rfl h⟩
  exact (dss_cons (ds_setX (i := 3) hN rfl (.inl rfl) (dxB (dx_of (de_ixA hK hu (de_val (pe_var (i := 0) rfl (.inl rfl))) de_int)) rfl))
  (dss_cons (ds_if (dt_cmp (or_inA hu5) inA_ops (de_val (pe_var (i := 3) rfl (.inl rfl))) (de_strip (dx_lst (da_cons de_str (da_cons de_str da_nil)))))
  (dss_one (ds_retX (dxB (dx_of (de_if (dt_cmp (or_eq hu) eq_ops (de_val (pe_var (i := 3) rfl (.inl rfl))) de_str) (de_ixA hK hu (de_val (pe_var (i := 1) rfl (.inl rfl))) (de_ixA hK hu (de_val (pe_var (i := 0) rfl (.inl rfl))) de_int)) de_int)) rfl)))
  dss_nil)
  (dss_cons (ds_setX (i := 4) hN rfl (.inl rfl) (dxB (dx_of (de_strip (dx_call ⟨A.f14, hr, gu, Z.g__law_number, Z.F14.kp⟩ rfl (bi14 Z) (da_cons (de_ixA hK hu (de_val (pe_var (i := 0) rfl (.inl rfl))) de_int) (da_cons (de_val (pe_var (i := 1) rfl (.inl rfl))) (da_cons (de_val (pe_var (i := 2) rfl (.inl rfl))) da_nil)))))) rfl))
  (dss_cons (ds_if (dt_cmp (or_eq hu) eq_ops (de_val (pe_var (i := 3) rfl (.inl rfl))) de_str)
  (dss_one (ds_retX (dxB (dx_of (de_callB (cr_sumA rfl) sumA_ok rfl Z.b_sum boot_sum (da_cons (de_bin or_mul mul_ops (de_strip (dx_lst (da_cons (de_val (pe_var (i := 4) rfl (.inl rfl))) da_nil))) (de_ixA hK hu (de_val (pe_var (i := 0) rfl (.inl rfl))) de_int)) da_nil))) rfl)))
  dss_nil)
  (dss_cons (ds_if (dt_cmp (or_inA hu5) inA_ops (de_val (pe_var (i := 3) rfl (.inl rfl))) (de_strip (dx_lst (da_cons de_str (da_cons de_str da_nil)))))
  (dss_cons (ds_setX (i := 6) hN rfl (.inl rfl) (dxB (dx_of (de_cmp (or_eq hu) eq_ops (de_callB (cr_repr gu hu5) repr_ok rfl Z.b_repr boot_repr (da_cons (de_strip (dx_call ⟨A.f13, hr, gu, Z.g__law_truth, Z.F13.kp⟩ rfl (bi13 Z) (da_cons (de_ixA hK hu (de_val (pe_var (i := 0) rfl (.inl rfl))) de_int) (da_cons (de_val (pe_var (i := 2) rfl (.inl rfl))) da_nil)))) da_nil)) de_str)) rfl))
  (dss_one (ds_retX (dxB (dx_of (de_if (dt_cmp (or_eq hu) eq_ops (de_val (pe_var (i := 6) rfl (.inl rfl))) (de_cmp (or_eq hu) eq_ops (de_val (pe_var (i := 3) rfl (.inl rfl))) de_str)) (de_val (pe_var (i := 4) rfl (.inl rfl))) de_int)) rfl))))
  dss_nil)
  (dss_cons (ds_setX (i := 5) hN rfl (.inl rfl) (dxB (dx_of (de_strip (dx_call ⟨A.f14, hr, gu, Z.g__law_number, Z.F14.kp⟩ rfl (bi14 Z) (da_cons (de_ixA hK hu (de_val (pe_var (i := 0) rfl (.inl rfl))) de_int) (da_cons (de_val (pe_var (i := 1) rfl (.inl rfl))) (da_cons (de_val (pe_var (i := 2) rfl (.inl rfl))) da_nil)))))) rfl))
  (dss_cons (ds_asg (deB (de_callB (cr_srt rfl) srt_ok rfl Z.b_sorted boot_sorted (da_cons (de_strip (dx_lst (da_cons (de_val (pe_var (i := 4) rfl (.inl rfl))) (da_cons (de_val (pe_var (i := 5) rfl (.inl rfl))) da_nil)))) da_nil)) rfl) (dg_tup hK rfl (dgs_cons (dg_name (i := 7) hN rfl (.inl rfl) (.inl rfl)) (dgs_cons (dg_name (i := 8) hN rfl (.inl rfl) (.inl rfl)) dgs_nil))))
  (dss_one (ds_retX (dxB (dx_of (de_ixA hK hu (de_strip (dx_disp (dps_cons (k := .inr "plus") pe_str (de_bin or_add add_ops (de_val (pe_var (i := 7) rfl (.inl rfl))) (de_val (pe_var (i := 8) rfl (.inl rfl)))) (dps_cons (k := .inr "both") pe_str (de_val (pe_var (i := 7) rfl (.inl rfl))) (dps_cons (k := .inr "either") pe_str (de_val (pe_var (i := 8) rfl (.inl rfl))) (dps_cons (k := .inr "rest") pe_str (de_bin or_sub sub_ops (de_val (pe_var (i := 4) rfl (.inl rfl))) (de_val (pe_var (i := 7) rfl (.inl rfl)))) dps_nil)))))) (de_val (pe_var (i := 3) rfl (.inl rfl))))) rfl))))))))))
theorem ok15 (Z : Fx K mg cla fds) (A : All P w K mg base cla fds n) : FnG P w K mg base CXn (n + 1) (He.ga K "_law_named") (fds 15) ps15 (spD ⟨K, cla⟩ (callF (n + 1) 15)) :=
  FnG.of Z.F15 sc15 (spD_len rfl) fun cd Ar fr s H vs Q E hr gu h => by
  have hK : (⟨K, cla⟩ : RX).K = K := rfl
  have hN := (sc15).nd
  have hu := hr.units
  have hu5 := units65 hr
  refine ⟨tDS ⟨K, cla⟩ Wf [] (bd15 (callF n)), PSs.nox ?_, fn_core (p := false) (np := 1) (nl := 1) (body := bd15 (callF n)) (N := N15) (Wx := Wf) rfl h⟩
  exact (dss_one (ds_retX (dxB (dx_of (de_if (dt_cmp (or_eq hu) eq_ops (de_ixA hK hu (de_val (pe_var (i := 0) rfl (.inl rfl))) de_int) de_str) (de_strip (dx_lst (da_cons (de_ixA hK hu (de_val (pe_var (i := 0) rfl (.inl rfl))) de_int) da_nil))) (de_callB (cr_sumA rfl) sumA_ok rfl Z.b_sum boot_sum (da_cons (de_strip (dx_lc rfl hN (diB (di_any hK (de_strip (dx_call ⟨A.f12, hr, gu, Z.g__law_inner, Z.F12.kp⟩ rfl (bi12 Z) (da_cons (de_val (pe_var (i := 0) rfl (.inl rfl))) da_nil)))) rfl) (blkOk_by (N := N15) (sc := defScope (top 34)) (own := [("part", 1)]) (by decide +kernel)) (fun _ _ _ _ _ => (dg_name (i := 1) hN rfl (.inl rfl) (.inr rfl))) (fun _ _ _ _ _ => (dts_one (dt_cmp (or_notInA hu5) notInA_ops (de_ixA hK hu (de_val (pe_var (i := 1) rfl (.inl rfl))) de_int) (de_strip (dx_lst (da_cons de_str (da_cons de_str (da_cons de_str (da_cons de_str (da_cons de_str (da_cons de_str (da_cons de_str da_nil)))))))))))) (fun _ _ _ _ _ => deB (de_strip (dx_call ⟨A.f15, hr, gu, Z.g__law_named, Z.F15.kp⟩ rfl (bi15 Z) (da_cons (de_val (pe_var (i := 1) rfl (.inl rfl))) da_nil))) rfl))) (da_cons (de_strip (dx_lst da_nil)) da_nil))))) rfl)))
theorem ok16 (Z : Fx K mg cla fds) (A : All P w K mg base cla fds n) : FnG P w K mg base CXn (n + 1) (He.ga K "_law_put") (fds 16) ps16 (spD ⟨K, cla⟩ (callF (n + 1) 16)) :=
  FnG.of Z.F16 sc16 (spD_len rfl) fun cd Ar fr s H vs Q E hr gu h => by
  have hK : (⟨K, cla⟩ : RX).K = K := rfl
  have hN := (sc16).nd
  have hu := hr.units
  have hu5 := units65 hr
  refine ⟨tDS ⟨K, cla⟩ Wf [] (bd16 (callF n)), PSs.nox ?_, fn_core (p := false) (np := 2) (nl := 1) (body := bd16 (callF n)) (N := N16) (Wx := Wf) rfl h⟩
  exact (dss_cons (ds_if (dt_cmp (or_eq hu) eq_ops (de_ixA hK hu (de_val (pe_var (i := 0) rfl (.inl rfl))) de_int) de_str)
  (dss_one (ds_retX (dxB (dx_of (de_get2 hu5 (de_val (pe_var (i := 1) rfl (.inr (.inl rfl)))) (de_ixA hK hu (de_val (pe_var (i := 0) rfl (.inl rfl))) de_int) (de_val (pe_var (i := 0) rfl (.inl rfl))) ⟨rfl, rfl, rfl, rfl⟩)) rfl)))
  dss_nil)
  (dss_one (ds_retX (dxB (dx_of (de_callTy call_tuple_of tuple_ok rfl Z.b_tuple boot_tuple (da_cons (de_strip (dx_lc rfl hN (diB (di_any hK (de_val (pe_var (i := 0) rfl (.inl rfl)))) rfl) (blkOk_by (N := N16) (sc := defScope (top 35)) (own := [("part", 2)]) (by decide +kernel)) (fun _ _ _ _ _ => (dg_name (i := 2) hN rfl (.inl rfl) (.inr rfl))) (fun _ _ _ _ _ => dts_nil) (fun _ _ _ _ _ => deB (de_if (dt_bool (dw_and (dt_truth hK (de_isi1 (t := .ty "tuple") hK isK0 rfl Z.b_isinstance (de_val (pe_var (i := 2) rfl (.inl rfl))) (pe_bltn (v := .ty "tuple") (u := .type "tuple") rfl Z.b_tuple boot_tuple rfl))) (dw_and1 (dt_cmp (or_notInA hu5) notInA_ops (de_ixA hK hu (de_val (pe_var (i := 2) rfl (.inl rfl))) de_int) (de_strip (dx_lst (da_cons de_str (da_cons de_str (da_cons de_str (da_cons de_str (da_cons de_str (da_cons de_str (da_cons de_str da_nil))))))))))))) (de_strip (dx_call ⟨A.f16, hr, gu, Z.g__law_put, Z.F16.kp⟩ rfl (bi16 Z) (da_cons (de_val (pe_var (i := 2) rfl (.inl rfl))) (da_cons (de_val (pe_var (i := 1) rfl (.inr (.inl rfl)))) da_nil)))) (de_val (pe_var (i := 2) rfl (.inl rfl)))) rfl))) da_nil))) rfl))))
theorem ok17 (Z : Fx K mg cla fds) (A : All P w K mg base cla fds n) : FnG P w K mg base CXn (n + 1) (He.ga K "law") (fds 17) ps17 (spD ⟨K, cla⟩ (callF (n + 1) 17)) :=
  FnG.of Z.F17 sc17 (spD_len rfl) fun cd Ar fr s H vs Q E hr gu h => by
  have hK : (⟨K, cla⟩ : RX).K = K := rfl
  have hN := (sc17).nd
  have hu := hr.units
  have hu5 := units65 hr
  refine ⟨tDS ⟨K, cla⟩ Wf [] (bd17 (callF n)), PSs.nox ?_, fn_core (p := false) (np := 1) (nl := 15) (body := bd17 (callF n)) (N := N17) (Wx := Wf) rfl h⟩
  exact (dss_cons (ds_setX (i := 1) hN rfl (.inr rfl) (dxB (dx_call ⟨A.f5, hr, gu, Z.g__law_pen, Z.F5.kp⟩ rfl (bi5 Z) (da_cons (de_val (pe_var (i := 0) rfl (.inl rfl))) da_nil)) rfl))
  (dss_cons (ds_for nopass rfl (diB (di_range1 rfl Z.b_range (da_cons de_int da_nil)) rfl) (dg_name (i := 2) hN rfl (.inl rfl) (.inl rfl))
  (dss_cons (ds_setX (i := 3) hN rfl (.inl rfl) (dxB (dx_of (de_strip (dx_callO ⟨A.f8, hr, gu, Z.g__law_names, Z.F8.kp⟩ rfl (bi8 Z) (pe_var (i := 1) rfl (.inr (.inl rfl))) (daB (da_cons de_int da_nil) rfl)))) rfl))
  (dss_cons (ds_asg (deB (de_tup (da_cons (de_sl hK (de_val (pe_var (i := 3) rfl (.inl rfl))) do_none (do_some de_int)) (da_cons (de_sl hK (de_val (pe_var (i := 3) rfl (.inl rfl))) (do_some de_int) (do_some de_int)) (da_cons (de_sl hK (de_val (pe_var (i := 3) rfl (.inl rfl))) (do_some de_int) (do_some (de_bin or_add add_ops de_int (de_strip (dx_callO ⟨A.f6, hr, gu, Z.g__law_draw, Z.F6.kp⟩ rfl (bi6 Z) (pe_var (i := 1) rfl (.inr (.inl rfl))) (daB (da_cons de_int da_nil) rfl)))))) da_nil)))) rfl) (dg_tup hK rfl (dgs_cons (dg_name (i := 10) hN rfl (.inr rfl) (.inl rfl)) (dgs_cons (dg_name (i := 11) hN rfl (.inl rfl) (.inl rfl)) (dgs_cons (dg_name (i := 12) hN rfl (.inr rfl) (.inl rfl)) dgs_nil)))))
  (dss_cons (ds_setX (i := 4) hN rfl (.inl rfl) (dxB (dx_of (de_strip (dx_callO ⟨A.f11, hr, gu, Z.g__law_question, Z.F11.kp⟩ rfl (bi11 Z) (pe_var (i := 1) rfl (.inr (.inl rfl))) (daB (da_cons (de_bin or_add add_ops (de_val (pe_var (i := 10) rfl (.inr (.inl rfl)))) (de_val (pe_var (i := 11) rfl (.inl rfl)))) (da_cons (de_val (pe_var (i := 12) rfl (.inr (.inl rfl)))) (da_cons de_int da_nil))) rfl)))) rfl))
  (dss_cons (ds_if (dt_bool (dw_or (dt_cmp (or_ne hu) ne_ops (de_strip (dx_call ⟨A.f3, hr, gu, Z.g_names_in, Z.F3.kp⟩ rfl (bi3 Z) (da_cons (de_val (pe_var (i := 4) rfl (.inl rfl))) da_nil))) (de_callTy call_tuple_of tuple_ok rfl Z.b_tuple boot_tuple (da_cons (de_sortSet rfl rfl Z.b_sorted rfl Z.b_set hK (de_strip (dx_call ⟨A.f15, hr, gu, Z.g__law_named, Z.F15.kp⟩ rfl (bi15 Z) (da_cons (de_val (pe_var (i := 4) rfl (.inl rfl))) da_nil)))) da_nil))) (dw_or1 (dt_cmp (or_ne hu) ne_ops (de_strip (dx_callK0 ⟨A.f3, hr, gu, Z.g_names_in, Z.F3.kp⟩ rfl (kb0 Z) kgI_perm rfl (cnt_cons cnt_nil) (dk_cons (de_val (pe_var (i := 4) rfl (.inl rfl))) dk_nil))) (de_strip (dx_call ⟨A.f3, hr, gu, Z.g_names_in, Z.F3.kp⟩ rfl (bi3 Z) (da_cons (de_val (pe_var (i := 4) rfl (.inl rfl))) da_nil)))))))
  (dss_one (ds_retX (dxB (dx_of de_bl) rfl)))
  dss_nil)
  (dss_cons (ds_setX (i := 5) hN rfl (.inr rfl) (dxB (dx_of (de_callTy (call_dictP rfl) dict_ok rfl Z.b_dict boot_dict (da_cons (de_strip (dx_lc rfl hN (diB (di_any hK (de_sl hK (de_val (pe_var (i := 11) rfl (.inl rfl))) do_none (do_some (de_bin or_add add_ops de_int (de_strip (dx_callO ⟨A.f6, hr, gu, Z.g__law_draw, Z.F6.kp⟩ rfl (bi6 Z) (pe_var (i := 1) rfl (.inr (.inl rfl))) (daB (da_cons de_int da_nil) rfl))))))) rfl) (blkOk_by (N := N17) (sc := defScope (top 36)) (own := [("step", 13)]) (by decide +kernel)) (fun _ _ _ _ _ => (dg_name (i := 13) hN rfl (.inl rfl) (.inr rfl))) (fun _ _ _ _ _ => dts_nil) (fun _ _ _ _ _ => deB (de_tup (da_cons (de_val (pe_var (i := 13) rfl (.inl rfl))) (da_cons (de_strip (dx_callO ⟨A.f11, hr, gu, Z.g__law_question, Z.F11.kp⟩ rfl (bi11 Z) (pe_var (i := 1) rfl (.inr (.inl rfl))) (daB (da_cons (de_val (pe_var (i := 10) rfl (.inr (.inl rfl)))) (da_cons (de_val (pe_var (i := 12) rfl (.inr (.inl rfl)))) (da_cons de_int da_nil))) rfl))) da_nil))) rfl))) da_nil))) rfl))
  (dss_cons (ds_setX (i := 6) hN rfl (.inl rfl) (dxB (dx_of (de_strip (dx_call ⟨A.f4, hr, gu, Z.g_replaced, Z.F4.kp⟩ rfl (bi4 Z) (da_cons (de_val (pe_var (i := 4) rfl (.inl rfl))) (da_cons (de_val (pe_var (i := 5) rfl (.inr (.inl rfl)))) da_nil))))) rfl))
  (dss_cons (ds_if (dt_bool (dw_or (dt_cmp (or_ne hu) ne_ops (de_callB (cr_repr gu hu5) repr_ok rfl Z.b_repr boot_repr (da_cons (de_val (pe_var (i := 6) rfl (.inl rfl))) da_nil)) (de_callB (cr_repr gu hu5) repr_ok rfl Z.b_repr boot_repr (da_cons (de_strip (dx_call ⟨A.f16, hr, gu, Z.g__law_put, Z.F16.kp⟩ rfl (bi16 Z) (da_cons (de_val (pe_var (i := 4) rfl (.inl rfl))) (da_cons (de_val (pe_var (i := 5) rfl (.inr (.inl rfl)))) da_nil)))) da_nil))) (dw_or1 (dt_cmp (or_ne hu) ne_ops (de_callB (cr_repr gu hu5) repr_ok rfl Z.b_repr boot_repr (da_cons (de_strip (dx_callK0 ⟨A.f4, hr, gu, Z.g_replaced, Z.F4.kp⟩ rfl (kb1 Z) kgI_perm rfl (cnt_cons (cnt_cons cnt_nil)) (dk_cons (de_val (pe_var (i := 5) rfl (.inr (.inl rfl)))) (dk_cons (de_val (pe_var (i := 4) rfl (.inl rfl))) dk_nil)))) da_nil)) (de_callB (cr_repr gu hu5) repr_ok rfl Z.b_repr boot_repr (da_cons (de_val (pe_var (i := 6) rfl (.inl rfl))) da_nil))))))
  (dss_one (ds_retX (dxB (dx_of de_bl) rfl)))
  dss_nil)
  (dss_cons (ds_setX (i := 7) hN rfl (.inr rfl) (dxB (dx_of (de_callTy (call_dictP rfl) dict_ok rfl Z.b_dict boot_dict (da_cons (de_strip (dx_lc rfl hN (diB (di_any hK (de_bin or_add add_ops (de_val (pe_var (i := 10) rfl (.inr (.inl rfl)))) (de_val (pe_var (i := 11) rfl (.inl rfl))))) rfl) (blkOk_by (N := N17) (sc := defScope (top 36)) (own := [("name", 14)]) (by decide +kernel)) (fun _ _ _ _ _ => (dg_name (i := 14) hN rfl (.inl rfl) (.inr rfl))) (fun _ _ _ _ _ => dts_nil) (fun _ _ _ _ _ => deB (de_tup (da_cons (de_val (pe_var (i := 14) rfl (.inl rfl))) (da_cons (de_strip (dx_callO ⟨A.f6, hr, gu, Z.g__law_draw, Z.F6.kp⟩ rfl (bi6 Z) (pe_var (i := 1) rfl (.inr (.inl rfl))) (daB (da_cons de_int da_nil) rfl))) da_nil))) rfl))) da_nil))) rfl))
  (dss_cons (ds_setX (i := 8) hN rfl (.inr rfl) (dxB (dx_of (de_callTy (call_dictP rfl) dict_ok rfl Z.b_dict boot_dict (da_cons (de_strip (dx_lc rfl hN (diB (di_any hK (de_val (pe_var (i := 12) rfl (.inr (.inl rfl))))) rfl) (blkOk_by (N := N17) (sc := defScope (top 36)) (own := [("column", 15)]) (by decide +kernel)) (fun _ _ _ _ _ => (dg_name (i := 15) hN rfl (.inl rfl) (.inr rfl))) (fun _ _ _ _ _ => dts_nil) (fun _ _ _ _ _ => deB (de_tup (da_cons (de_val (pe_var (i := 15) rfl (.inl rfl))) (da_cons (de_strip (dx_callO ⟨A.f7, hr, gu, Z.g__law_pick, Z.F7.kp⟩ rfl (bi7 Z) (pe_var (i := 1) rfl (.inr (.inl rfl))) (daB (da_cons (de_strip (dx_lst (da_cons de_non (da_cons de_int (da_cons de_int (da_cons de_int (da_cons de_int da_nil))))))) da_nil) rfl))) da_nil))) rfl))) da_nil))) rfl))
  (dss_cons (ds_setX (i := 9) hN rfl (.inl rfl) (dxB (dx_of (de_callTy (call_dictP rfl) dict_ok rfl Z.b_dict boot_dict (da_cons (de_strip (dx_lcLk (i := 7) lkK lk_keys (fun _ _ _ _ _ h => h) rfl hN (pi_keys (pe_var (i := 7) rfl (.inr (.inl rfl)))) (blkOk_by (N := N17) (sc := defScope (top 36)) (own := [("name", 14)]) (by decide +kernel)) (fun _ _ _ _ _ => (dg_name (i := 14) hN rfl (.inl rfl) (.inr rfl))) (fun _ _ _ _ _ => dts_nil) (fun _ _ _ _ _ => deB (de_tup (da_cons (de_val (pe_var (i := 14) rfl (.inl rfl))) (da_cons (de_if (dt_cmp (or_inA hu5) inA_ops (de_val (pe_var (i := 14) rfl (.inl rfl))) (de_val (pe_var (i := 5) rfl (.inr (.inl rfl))))) (de_strip (dx_call ⟨A.f14, hr, gu, Z.g__law_number, Z.F14.kp⟩ rfl (bi14 Z) (da_cons (de_ixA hK hu (de_val (pe_var (i := 5) rfl (.inr (.inl rfl)))) (de_val (pe_var (i := 14) rfl (.inl rfl)))) (da_cons (de_val (pe_var (i := 7) rfl (.inr (.inl rfl)))) (da_cons (de_val (pe_var (i := 8) rfl (.inr (.inl rfl)))) da_nil))))) (de_ixA hK hu (de_val (pe_var (i := 7) rfl (.inr (.inl rfl)))) (de_val (pe_var (i := 14) rfl (.inl rfl))))) da_nil))) rfl))) da_nil))) rfl))
  (dss_one (ds_if (dt_cmp (or_ne hu) ne_ops (de_strip (dx_call ⟨A.f2, hr, gu, Z.g_number_of, Z.F2.kp⟩ rfl (bi2 Z) (da_cons (de_val (pe_var (i := 6) rfl (.inl rfl))) (da_cons (de_val (pe_var (i := 7) rfl (.inr (.inl rfl)))) (da_cons (de_val (pe_var (i := 8) rfl (.inr (.inl rfl)))) da_nil))))) (de_strip (dx_call ⟨A.f14, hr, gu, Z.g__law_number, Z.F14.kp⟩ rfl (bi14 Z) (da_cons (de_val (pe_var (i := 4) rfl (.inl rfl))) (da_cons (de_val (pe_var (i := 9) rfl (.inl rfl))) (da_cons (de_val (pe_var (i := 8) rfl (.inr (.inl rfl)))) da_nil))))))
  (dss_one (ds_retX (dxB (dx_of de_bl) rfl)))
  dss_nil)))))))))))))
  (dss_one (ds_retX (dxB (dx_of (de_and hK (de_cmp (or_eq hu) eq_ops (de_strip (dx_call ⟨A.f4, hr, gu, Z.g_replaced, Z.F4.kp⟩ rfl (bi4 Z) (da_cons (de_tup (da_cons de_str da_nil)) (da_cons (de_strip (dx_disp (dps_cons (k := .inr "a") pe_str (de_tup (da_cons de_str (da_cons de_str da_nil))) dps_nil))) da_nil)))) (de_tup (da_cons de_str da_nil))) (de_one (de_cmp (or_eq hu) eq_ops (de_strip (dx_call ⟨A.f3, hr, gu, Z.g_names_in, Z.F3.kp⟩ rfl (bi3 Z) (da_cons (de_tup (da_cons de_str da_nil)) da_nil))) (de_tup da_nil))))) rfl)))))
theorem all (Z : Fx K mg cla fds) : ∀ n, All P w K mg base cla fds n
  | 0 => ⟨fn0, fn0, fn0, fn0, fn0, fn0, fn0, fn0, fn0, fn0, fn0, fn0, fn0, fn0, fn0, fn0, fn0, fn0⟩
  | n + 1 => ⟨ok0 Z (all Z n), ok1 Z (all Z n), ok2 Z (all Z n), ok3 Z (all Z n), ok4 Z (all Z n), ok5 Z (all Z n), ok6 Z (all Z n), ok7 Z (all Z n), ok8 Z (all Z n), ok9 Z (all Z n), ok10 Z (all Z n), ok11 Z (all Z n), ok12 Z (all Z n), ok13 Z (all Z n), ok14 Z (all Z n), ok15 Z (all Z n), ok16 Z (all Z n), ok17 Z (all Z n)⟩
end
def loose : List PySem.Str := (["OF", "NONE", "PLUS", "BOTH", "EITHER", "REST", "TIMES", "WHERE", "UNLESS", "LESS", "MOST", "EQUAL", "NULL", "NOT", "OR", "PAIRS", "COMPARED", "truth_of", "put_together", "number_of", "names_in", "replaced", "_law_pen", "_law_draw", "_law_pick", "_law_names", "_law_condition", "_law_test", "_law_question", "_law_inner"] : List PySem.Str) ++ (["_law_truth", "_law_number", "_law_named", "_law_put"] : List PySem.Str)
abbrev RW : PySem.W.OpenRow := PySem.W.OpenLaw.row PySem.Challenge.rw_neverdearer_k04_names_and_what_stands_in
abbrev hk : PySem.W.Hook := hookM 5 fa fn ks
def ob (s : PySem.W.SharedT) : AlM := obsM 5 fa fn ks (HandSHeadRun.getT s)
theorem ob_eq (s : PySem.W.SharedT) : ob s = hk.obs s.abs := obsM_eq (HandSHeadRun.getT_eq s)
theorem run (w : World) : HandSHeadRun.RunEq RW (PySem.W.view RW.prog [36]) hk ob 4000 loose w := by
  intro os
  kernel_rfl
end Lw
section
open PySem PySem.W PySem.Calls PyProof.Rows
theorem law_holds (law : ∀ ns : List Int, ns.length ≤ 63 → (∀ z ∈ ns, Builtin.Int.intBits z ≤ 1048576) → ∃ io, Lw.callF 60 17 [.scr ns] = .ret (.bl true) io) : PySem.Challenge.rw_neverdearer_k04_names_and_what_stands_in.Holds := by
  w_on; o_law
  refine HandSHeadRun.head_any (r := OpenLaw.row PySem.Challenge.rw_neverdearer_k04_names_and_what_stands_in) (q := view (OpenLaw.row PySem.Challenge.rw_neverdearer_k04_names_and_what_stands_in).prog [36]) (H := Lw.hk) (ob := Lw.ob) (M := 4000) (loose := Lw.loose) (d := HandSHeadRun.topDef (OpenLaw.row PySem.Challenge.rw_neverdearer_k04_names_and_what_stands_in).prog 36) (kwd := []) Lw.ob_eq
    (by kernel_rfl) (fun s => by kernel_rfl) Lw.run (by kernel_rfl) (by kernel_rfl) (by kernel_rfl) (by rfl) (by first | assumption | decide +kernel) (by decide +kernel) ⟨rfl, rfl, rfl, rfl, rfl, by decide +kernel⟩ ?hw ?hc
  case hw => w_witness2
  case hc =>
    refine Dl.walkG (l := PySem.Challenge.rw_neverdearer_k04_names_and_what_stands_in) (m := 63) (n := 60) (x := "script") rfl (by decide) (by kernel_rfl) ⟨rfl, by decide, by decide⟩ ?F
    intro w mg fa h Y G hmg0
    obtain ⟨K, kin, c⟩ := Y
    obtain ⟨fds, F⟩ := Dl.funs_ex c.d
    have Z : Lw.Fx K mg (fun _ => 0) fds := Lw.facts kin G c F
    have hmg : mg ("law" : PySem.Str) = some (.ref fa) := by
      have e : (HandSHeadRun.topDef (OpenLaw.row PySem.Challenge.rw_neverdearer_k04_names_and_what_stands_in).prog 36).name = ("law" : PySem.Str) := by kernel_rfl
      rw [← e]
      exact hmg0
    have e := hmg.symm.trans Z.g_law
    cases e
    exact ⟨K, ⟨K, fun _ => 0⟩, fds 17, Lw.callF 60 17, rfl, kin, fun s v => L2.FunD.bindsA (ps := ["script"]) Z.F17 (fun _ _ _ _ _ _ us hl => match us, hl with | [_], _ => rfl) s [v] rfl, law, fun base hb hn => (Lw.all (P := (PySem.Challenge.rw_neverdearer_k04_names_and_what_stands_in).prog) (w := w) (base := base) Z 60).f17⟩
end
set_option maxHeartbeats 0
/-! the pen of the law -/
namespace Lw
open Dl
variable {cs : List Int} {k : Int} {pen : D}
theorem pen0 {n : Nat} {ns : List Int} (h : ns.length ≤ 63) : callF (n + 1) 5 [.scr ns] = .ret (.own (penD ns 0 0)) [] := by
  rw [cf5]
  unfold bd5 penD
  have h1 : min 63 ns.length = ns.length := by omega
  have h2 : List.take ns.length (List.map D.int ns) = List.map D.int ns := List.take_of_length_le (by simp)
  simp [sSeq, sIf, sRetX, sSetX, sPut, sDrop, sRetO_eq, sRetN, sPass, sNil, mBin, mVal, mOwnIx, mOwnIxA, mOwn, mC, mTB, mAnd, mOr, mNot, mCB, mCons, mNil, mTup, mIf, mFree, mCall, mCallO, mIsi, mTru, mUn, mAndV, mOrV, mNotV, mSl, mPart, mNoPart, mCW, mMth, mPop, mOwnL, mStrip, getV_eq, getO_eq, ownL, asB, asI, optO, fin1, fnD, settleX_nil, settleX_cons, settles_nil, settle_nil, settle1_nil, settle_cons, settle1_cons, settles_cons, frz, free, frees, free1, ltD, gtD, leD, geD, ordD, intOf, absD, lenD, lenA, listW, ixD, ixA, L2.atI, L2.ixN, addD, subD, modD, fdvD, powD, Dl.intD, negD, strip_eq, isOwn_eq, truthD, isiD, tyOf, isAny, kt0, kb_NoneType_bool, kb_NoneType_int, kb_NoneType_str, kb_NoneType_tuple, kb_NoneType_list, kb_NoneType_dict, kb_NoneType_float, kb_NoneType_set, kb_bool_bool, kb_bool_int, kb_bool_str, kb_bool_tuple, kb_bool_list, kb_bool_dict, kb_bool_float, kb_bool_set, kb_int_bool, kb_int_int, kb_int_str, kb_int_tuple, kb_int_list, kb_int_dict, kb_int_float, kb_int_set, kb_str_bool, kb_str_int, kb_str_str, kb_str_tuple, kb_str_list, kb_str_dict, kb_str_float, kb_str_set, kb_tuple_bool, kb_tuple_int, kb_tuple_str, kb_tuple_tuple, kb_tuple_list, kb_tuple_dict, kb_tuple_float, kb_tuple_set, kb_list_bool, kb_list_int, kb_list_str, kb_list_tuple, kb_list_list, kb_list_dict, kb_list_float, kb_list_set, kb_dict_bool, kb_dict_int, kb_dict_str, kb_dict_tuple, kb_dict_list, kb_dict_dict, kb_dict_float, kb_dict_set, PySem.sizeLine_eq, inS, notInS, inA, notInA, noDct, isInD, notInD, inB, flatD, eqF, eqD, neD, eqB, scalEq, isD, isNotD, isB, ofString_beq, ofString_inj, mChain, mAndV, mOrV, mNotV, mApp, kgI, mLcX, mLcC, mIter, anyOf, noOwn, loopC, wipeG, backG, aName, mYes, frz1, tupleD, mRange1, rangeD1, small62, rangeI_len, slD, cutD, HT.sIx, h1, h2]
theorem bd6_eq (cf : Nat → List D → OutF) : bd6 cf = drawM 71147 9105 33245 6189 := rfl
theorem draw {n : Nat} {many : Int} (O : PenOk cs) (h : Pn cs k pen) (hk : k ≤ 4000000) (hm : many < 2 ^ 64) : ∃ r pen', callF (n + 1) 6 [.own pen, .int many] = .ret (.int r) [some (.own pen')] ∧ Pn cs (k + 1) pen' ∧ 0 ≤ r ∧ (1 ≤ many → r < many) := by
  obtain ⟨p, q, rfl, h0, h1, h2⟩ := h
  obtain ⟨r, p', q', e, a1, a2, a3, a4, a5⟩ := draw_ok (a := 71147) (b := 9105) (c := 33245) (d := 6189) (many := many) (q := q) ⟨by omega, by omega, by omega, by omega, ⟨h0, by omega⟩⟩ hm h2 O
  refine ⟨r, penD cs p' q', ?_, ⟨p', q', rfl, by omega, by omega, a3⟩, a4, fun h1 => by omega⟩
  rw [cf6, bd6_eq]
  exact e
theorem pick {n : Nat} {l : List D} (O : PenOk cs) (h : Pn cs k pen) (hk : k ≤ 4000000) (hl : l ≠ []) (hl2 : l.length < 1000) (ho : ∀ x ∈ l, isOwnD x = false) : ∃ x pen', x ∈ l ∧ callF (n + 2) 7 [.own pen, .lst l] = .ret x [some (.own pen')] ∧ Pn cs (k + 1) pen' := by
  have hpos : 0 < l.length := List.length_pos_iff.mpr hl
  obtain ⟨r, pen', e, hp, r0, r1⟩ := draw (n := n) (many := l.length) O h hk (by omega)
  have r1 := r1 (by omega)
  refine ⟨l[r.toNat]'(by omega), pen', List.getElem_mem _, ?_, hp⟩
  rw [cf7]
  unfold bd7
  have o1 := ho (l[r.toNat]'(by omega)) (List.getElem_mem _)
  have r2 : r.toNat < l.length := by omega
  simp [sSeq, sIf, sRetX, sSetX, sPut, sDrop, sRetO_eq, sRetN, sPass, sNil, mBin, mVal, mOwnIx, mOwnIxA, mOwn, mC, mTB, mAnd, mOr, mNot, mCB, mCons, mNil, mTup, mIf, mFree, mCall, mCallO, mIsi, mTru, mUn, mAndV, mOrV, mNotV, mSl, mPart, mNoPart, mCW, mMth, mPop, mOwnL, mStrip, getV_eq, getO_eq, ownL, asB, asI, optO, fin1, fnD, settleX_nil, settleX_cons, settles_nil, settle_nil, settle1_nil, settle_cons, settle1_cons, settles_cons, frz, free, frees, free1, ltD, gtD, leD, geD, ordD, intOf, absD, lenD, lenA, listW, ixD, ixA, L2.atI, L2.ixN, addD, subD, modD, fdvD, powD, Dl.intD, negD, strip_eq, isOwn_eq, truthD, isiD, tyOf, isAny, kt0, kb_NoneType_bool, kb_NoneType_int, kb_NoneType_str, kb_NoneType_tuple, kb_NoneType_list, kb_NoneType_dict, kb_NoneType_float, kb_NoneType_set, kb_bool_bool, kb_bool_int, kb_bool_str, kb_bool_tuple, kb_bool_list, kb_bool_dict, kb_bool_float, kb_bool_set, kb_int_bool, kb_int_int, kb_int_str, kb_int_tuple, kb_int_list, kb_int_dict, kb_int_float, kb_int_set, kb_str_bool, kb_str_int, kb_str_str, kb_str_tuple, kb_str_list, kb_str_dict, kb_str_float, kb_str_set, kb_tuple_bool, kb_tuple_int, kb_tuple_str, kb_tuple_tuple, kb_tuple_list, kb_tuple_dict, kb_tuple_float, kb_tuple_set, kb_list_bool, kb_list_int, kb_list_str, kb_list_tuple, kb_list_list, kb_list_dict, kb_list_float, kb_list_set, kb_dict_bool, kb_dict_int, kb_dict_str, kb_dict_tuple, kb_dict_list, kb_dict_dict, kb_dict_float, kb_dict_set, e, r0, r1, r2, o1]
theorem pickT {n : Nat} {l : List D} (O : PenOk cs) (h : Pn cs k pen) (hk : k ≤ 4000000) (hl : l ≠ []) (hl2 : l.length < 1000) (ho : ∀ x ∈ l, isOwnD x = false) : ∃ x pen', x ∈ l ∧ callF (n + 2) 7 [.own pen, .tup l] = .ret x [some (.own pen')] ∧ Pn cs (k + 1) pen' := by
  have hpos : 0 < l.length := List.length_pos_iff.mpr hl
  obtain ⟨r, pen', e, hp, r0, r1⟩ := draw (n := n) (many := l.length) O h hk (by omega)
  have r1 := r1 (by omega)
  refine ⟨l[r.toNat]'(by omega), pen', List.getElem_mem _, ?_, hp⟩
  rw [cf7]
  unfold bd7
  have o1 := ho (l[r.toNat]'(by omega)) (List.getElem_mem _)
  have r2 : r.toNat < l.length := by omega
  simp [sSeq, sIf, sRetX, sSetX, sPut, sDrop, sRetO_eq, sRetN, sPass, sNil, mBin, mVal, mOwnIx, mOwnIxA, mOwn, mC, mTB, mAnd, mOr, mNot, mCB, mCons, mNil, mTup, mIf, mFree, mCall, mCallO, mIsi, mTru, mUn, mAndV, mOrV, mNotV, mSl, mPart, mNoPart, mCW, mMth, mPop, mOwnL, mStrip, getV_eq, getO_eq, ownL, asB, asI, optO, fin1, fnD, settleX_nil, settleX_cons, settles_nil, settle_nil, settle1_nil, settle_cons, settle1_cons, settles_cons, frz, free, frees, free1, ltD, gtD, leD, geD, ordD, intOf, absD, lenD, lenA, listW, ixD, ixA, L2.atI, L2.ixN, addD, subD, modD, fdvD, powD, Dl.intD, negD, strip_eq, isOwn_eq, truthD, isiD, tyOf, isAny, kt0, kb_NoneType_bool, kb_NoneType_int, kb_NoneType_str, kb_NoneType_tuple, kb_NoneType_list, kb_NoneType_dict, kb_NoneType_float, kb_NoneType_set, kb_bool_bool, kb_bool_int, kb_bool_str, kb_bool_tuple, kb_bool_list, kb_bool_dict, kb_bool_float, kb_bool_set, kb_int_bool, kb_int_int, kb_int_str, kb_int_tuple, kb_int_list, kb_int_dict, kb_int_float, kb_int_set, kb_str_bool, kb_str_int, kb_str_str, kb_str_tuple, kb_str_list, kb_str_dict, kb_str_float, kb_str_set, kb_tuple_bool, kb_tuple_int, kb_tuple_str, kb_tuple_tuple, kb_tuple_list, kb_tuple_dict, kb_tuple_float, kb_tuple_set, kb_list_bool, kb_list_int, kb_list_str, kb_list_tuple, kb_list_list, kb_list_dict, kb_list_float, kb_list_set, kb_dict_bool, kb_dict_int, kb_dict_str, kb_dict_tuple, kb_dict_list, kb_dict_dict, kb_dict_float, kb_dict_set, e, r0, r1, r2, o1]
theorem pickS {n : Nat} {z : S} (O : PenOk cs) (h : Pn cs k pen) (hk : k ≤ 4000000) (hl : 0 < z.length) (hl2 : z.length < 1000) : ∃ c pen', c ∈ z.cps.toList ∧ callF (n + 2) 7 [.own pen, .str z] = .ret (.str ⟨#[c]⟩) [some (.own pen')] ∧ Pn cs (k + 1) pen' := by
  obtain ⟨r, pen', e, hp, r0, r1⟩ := draw (n := n) (many := z.length) O h hk (by omega)
  obtain ⟨c, hc, ec⟩ := sign_at (z := z) r0 (r1 (by omega)) (by omega)
  refine ⟨c, pen', hc, ?_, hp⟩
  rw [cf7]
  unfold bd7
  have hz : z.length ≤ 16777216 := by omega
  simp [sRetX, mBin, mVal, mCB, mCons, mNil, mCallO, mStrip, getV_eq, getO_eq, optO, fin1, fnD, settleX_eq, settles_nil, settle_nil, Dl.settle, settles, frz, free, strip_eq, isOwn_eq, lenA, lenD, PySem.sizeLine_eq, hz, e, ec]
end Lw
set_option maxHeartbeats 0
namespace Lw
open Dl
/-! drawn names, tests, questions -/
inductive TT (cols : List S) : D → Nat → Nat → Nat → Prop
  | cmp {w c : S} {k : Int} (hw : w ∈ (["less", "most", "equal"] : List S)) (hc : c ∈ cols) (h1 : -(10 ^ 30) ≤ k) (h2 : k ≤ 10 ^ 30) : TT cols (.tup [.str w, .str c, .int k]) 0 0 1
  | nul {c : S} (hc : c ∈ cols) : TT cols (.tup [.str "null", .str c]) 0 0 1
  | not {t : D} {s d m : Nat} (ht : TT cols t s d m) : TT cols (.tup [.str "not", t]) (1 + s) (1 + d) (1 + m)
  | bin {a b : D} {w : S} {s s' d d' m m' : Nat} (hw : w ∈ (["and", "or"] : List S)) (ha : TT cols a s d m) (hb : TT cols b s' d' m') : TT cols (.tup [.str w, a, b]) (1 + (s + s')) (1 + max d d') (1 + (m + m'))
inductive QT (names cols : List S) : D → Nat → Nat → Nat → Prop
  | none : QT names cols (.tup [.str "none"]) 0 0 1
  | of {t : S} (ht : t ∈ names) : QT names cols (.tup [.str "of", .str t]) 0 0 1
  | pair {a b : D} {w : S} {s s' d d' m m' : Nat} (hw : w ∈ (["plus", "both", "either", "rest"] : List S)) (ha : QT names cols a s d m) (hb : QT names cols b s' d' m') : QT names cols (.tup [.str w, a, b]) (1 + (s + s')) (1 + max d d') (1 + (m + m'))
  | times {a : D} {k : Int} {s d m : Nat} (ha : QT names cols a s d m) (h0 : 0 ≤ k) (h9 : k ≤ 9) : QT names cols (.tup [.str "times", a, .int k]) (1 + s) (1 + d) (1 + m)
  | wher {a t : D} {w : S} {s s' d d' m m' : Nat} (hw : w ∈ (["where", "unless"] : List S)) (ha : QT names cols a s d m) (ht : TT cols t s' d' m') : QT names cols (.tup [.str w, a, t]) (1 + (s + s')) (1 + max d d') (1 + (m + m'))
theorem TT.tup {cols : List S} {v : D} {s d m : Nat} (q : TT cols v s d m) : ∃ l, v = .tup l := by cases q <;> exact ⟨_, rfl⟩
theorem QT.tup {names cols : List S} {v : D} {s d m : Nat} (q : QT names cols v s d m) : ∃ l, v = .tup l := by cases q <;> exact ⟨_, rfl⟩
theorem TT.own {cols : List S} {v : D} {s d m : Nat} (q : TT cols v s d m) : isOwnD v = false := by cases q <;> rfl
theorem QT.own {names cols : List S} {v : D} {s d m : Nat} (q : QT names cols v s d m) : isOwnD v = false := by cases q <;> rfl
theorem pow_max (d d' : Nat) : 2 ^ (d + 1) ≤ 2 ^ (max d d' + 1) ∧ 2 ^ (d' + 1) ≤ 2 ^ (max d d' + 1) := ⟨Nat.pow_le_pow_right (by omega) (by omega), Nat.pow_le_pow_right (by omega) (by omega)⟩
theorem TT.many {cols : List S} {v : D} {s d m : Nat} (q : TT cols v s d m) : m + 1 ≤ 2 ^ (d + 1) := by
  induction q with
  | cmp hw hc h1 h2 => decide
  | nul hc => decide
  | @not t s d m _ ih =>
    have : 2 ^ (1 + d + 1) = 2 * 2 ^ (d + 1) := by rw [show 1 + d + 1 = (d + 1) + 1 from by omega, Nat.pow_succ]; omega
    omega
  | @bin a b w s s' d d' m m' hw _ _ i1 i2 =>
    have : 2 ^ (1 + max d d' + 1) = 2 * 2 ^ (max d d' + 1) := by rw [show 1 + max d d' + 1 = (max d d' + 1) + 1 from by omega, Nat.pow_succ]; omega
    have := pow_max d d'
    omega
theorem QT.many {names cols : List S} {v : D} {s d m : Nat} (q : QT names cols v s d m) : m + 1 ≤ 2 ^ (d + 1) := by
  induction q with
  | none => decide
  | of ht => decide
  | @pair a b w s s' d d' m m' hw _ _ i1 i2 =>
    have : 2 ^ (1 + max d d' + 1) = 2 * 2 ^ (max d d' + 1) := by rw [show 1 + max d d' + 1 = (max d d' + 1) + 1 from by omega, Nat.pow_succ]; omega
    have := pow_max d d'
    omega
  | @times a k s d m _ h0 h9 ih =>
    have : 2 ^ (1 + d + 1) = 2 * 2 ^ (d + 1) := by rw [show 1 + d + 1 = (d + 1) + 1 from by omega, Nat.pow_succ]; omega
    omega
  | @wher a t w s s' d d' m m' hw _ ht i1 =>
    have i2 := ht.many
    have : 2 ^ (1 + max d d' + 1) = 2 * 2 ^ (max d d' + 1) := by rw [show 1 + max d d' + 1 = (max d d' + 1) + 1 from by omega, Nat.pow_succ]; omega
    have := pow_max d d'
    omega
variable {cs : List Int} {k : Int} {pen : D}
/-! names -/
structure NamesOk (names : List S) : Prop where
  ok : SOk names
  len : ∀ c ∈ names, c.length ≤ 8
  no : ("nosuch" : S) ∉ names
theorem letter : ∀ i : Nat, i < 26 → ∃ c : Nat, (PySem.Str.ofString "abcdefghijklmnopqrstuvwxyz").cps.toList[i]? = some c ∧ c < 200 := by
  have h : ∀ i : Fin 26, ((PySem.Str.ofString "abcdefghijklmnopqrstuvwxyz").cps.toList[i.1]?.any fun c => decide (c < 200)) = true := by decide +kernel
  intro i hi
  have := h ⟨i, hi⟩
  obtain ⟨c, e, hc⟩ := (Option.any_eq_true _ _).mp this
  exact ⟨c, e, of_decide_eq_true hc⟩
theorem let_len : (PySem.Str.ofString "abcdefghijklmnopqrstuvwxyz").cps.toList.length = 26 := by decide +kernel
theorem let_len2 : (PySem.Str.ofString "abcdefghijklmnopqrstuvwxyz").length = 26 := by decide +kernel
def endsL : List S := ["", "", "b", "zzzzzzz"]
theorem name_ok {c : Nat} {e : S} (hc : c < 200) (he : e ∈ endsL) : (⟨#[c]⟩ ++ e : S) ≠ "nosuch" ∧ PySem.PyData.strOk (⟨#[c]⟩ ++ e : S) = true ∧ (⟨#[c]⟩ : S).length + e.length ≤ 8 := by
  unfold endsL at he
  simp only [List.mem_cons, List.not_mem_nil, or_false] at he
  have key : ∀ e : S, e.cps.size ≠ 5 → (e.cps.all (· < 0x110000)) = true → e.cps.size ≤ 7 → (⟨#[c]⟩ ++ e : S) ≠ "nosuch" ∧ PySem.PyData.strOk (⟨#[c]⟩ ++ e : S) = true ∧ (⟨#[c]⟩ : S).length + e.length ≤ 8 := by
    intro e h1 h2 h3
    refine ⟨fun z => ?_, ?_, ?_⟩
    · have z2 := congrArg (fun s : S => s.cps.size) z
      have e1 : (⟨#[c]⟩ ++ e : S).cps.size = 1 + e.cps.size := by
        show (#[c] ++ e.cps).size = _
        rw [Array.size_append]
        rfl
      have e2 : (PySem.Str.ofString "nosuch").cps.size = 6 := by decide +kernel
      simp only [e1, e2] at z2
      omega
    · show (#[c] ++ e.cps).all (fun x => decide (x < 0x110000)) = true
      rw [Array.all_append, h2]
      simp
      omega
    · show #[c].size + e.cps.size ≤ _
      simp
      omega
  rcases he with rfl | rfl | rfl | rfl <;> exact key _ (by decide +kernel) (by decide +kernel) (by decide +kernel)
theorem names {n : Nat} (O : PenOk cs) (h : Pn cs k pen) (hk : k ≤ 3000000) : ∃ l pen', callF (n + 3) 8 [.own pen, .int 8] = .ret (.own (.lst (strsD l))) [some (.own pen')] ∧ Pn cs (k + 3) pen' ∧ l.length = 8 ∧ NamesOk l := by
  obtain ⟨r1, p1, e1, h1, a1, b1⟩ := draw (n := n + 1) (many := 26) O h (by omega) (by omega)
  obtain ⟨x2, p2, m2, e2, h2⟩ := pick (n := n) (l := [.int 1, .int 3, .int 5, .int 7, .int 9, .int 11]) O h1 (by omega) (by simp) (by simp) (by simp)
  obtain ⟨x3, p3, m3, e3, h3⟩ := pick (n := n) (l := strsD endsL) O h2 (by omega) (by simp [strsD, endsL]) (by simp [strsD, endsL]) (by simp [strsD, endsL])
  obtain ⟨hop, rfl, hh⟩ : ∃ i : Int, x2 = .int i ∧ 1 ≤ i ∧ i ≤ 11 := by
    simp only [List.mem_cons, List.not_mem_nil, or_false] at m2
    rcases m2 with rfl | rfl | rfl | rfl | rfl | rfl <;> exact ⟨_, rfl, by omega, by omega⟩
  obtain ⟨en, rfl, he⟩ : ∃ en : S, x3 = .str en ∧ en ∈ endsL := by
    unfold strsD at m3
    obtain ⟨en, h1, h2⟩ := List.mem_map.mp m3
    exact ⟨en, h2.symm, h1⟩
  have e3 : callF (n + 2) 7 [.own p2, .lst [.str "", .str "", .str "b", .str "zzzzzzz"]] = .ret (.str en) [some (.own p3)] := e3
  have b1 := b1 (by omega)
  -- the letter at a place
  have lt : ∀ i : Int, 0 ≤ i → i < 26 → ∃ c : Nat, L2.atI (PySem.Str.ofString "abcdefghijklmnopqrstuvwxyz").cps.toList i = some c ∧ c < 200 := by
    intro i h0 h1
    obtain ⟨c, e, hc⟩ := letter i.toNat (by omega)
    refine ⟨c, ?_, hc⟩
    unfold L2.atI L2.ixN
    rw [let_len, if_pos h0, if_pos (by omega)]
    exact e
  have fn : ∀ at_ : Nat, at_ < 8 → ∃ nm : S, (∃ c, L2.atI (PySem.Str.ofString "abcdefghijklmnopqrstuvwxyz").cps.toList ((r1 + hop * at_) % 26) = some c ∧ nm = ⟨#[c]⟩ ++ en ∧ (⟨#[c]⟩ : S).length + en.length ≤ 16777216) ∧ nm ≠ "nosuch" ∧ PySem.PyData.strOk nm = true ∧ nm.length ≤ 8 := by
    intro at_ _
    obtain ⟨c, e, hc⟩ := lt ((r1 + hop * at_) % 26) (by omega) (by omega)
    obtain ⟨n1, n2, n3⟩ := name_ok hc he
    exact ⟨_, ⟨c, e, rfl, Nat.le_trans n3 (by decide)⟩, n1, n2, by rw [PySem.strLen_append]; exact n3⟩
  have fn' : ∀ at_ : Nat, ∃ nm : S, at_ < 8 → (∃ c, L2.atI (PySem.Str.ofString "abcdefghijklmnopqrstuvwxyz").cps.toList ((r1 + hop * at_) % 26) = some c ∧ nm = ⟨#[c]⟩ ++ en ∧ (⟨#[c]⟩ : S).length + en.length ≤ 16777216) ∧ nm ≠ "nosuch" ∧ PySem.PyData.strOk nm = true ∧ nm.length ≤ 8 := fun at_ => by
    by_cases h : at_ < 8
    · obtain ⟨nm, q⟩ := fn at_ h
      exact ⟨nm, fun _ => q⟩
    · exact ⟨"", fun z => (h z).elim⟩
  obtain ⟨f, hf⟩ := Classical.axiomOfChoice fn'
  have comp : loopC (aName 6) [6] mYes (mBin addD (mBin ixA (mVal 2) (mBin modD (mCB intOf (mCons (mBin addD (mVal 4) (mBin mulD (mVal 5) (mVal 6))) mNil)) (mC (.int 26)))) (mVal 3)) (rangeI 0 8)
      [some (.own p3), some (.int 8), some (.str "abcdefghijklmnopqrstuvwxyz"), some (.str en), some (.int r1), some (.int hop), none] = .ok (strsD ((List.range 8).map f)) [some (.own p3), some (.int 8), some (.str "abcdefghijklmnopqrstuvwxyz"), some (.str en), some (.int r1), some (.int hop), none] := by
    have e : strsD ((List.range 8).map f) = (rangeI 0 8).map fun d => match d with
        | .int i => .str (f i.toNat)
        | _ => .non := by
      unfold strsD rangeI
      rw [List.map_map, List.map_map]
      refine List.map_congr_left fun a _ => ?_
      show D.str (f a) = D.str (f ((0 : Int) + a).toNat)
      rw [show ((0 : Int) + a).toNat = a from by omega]
    rw [e]
    refine loopC_pure (by simp) fun d hd => ?_
    obtain ⟨i, hi⟩ := List.getElem?_of_mem hd
    obtain ⟨h6, rfl⟩ := rangeI_get hi
    obtain ⟨⟨c, q1, q2, q3⟩, _, _, _⟩ := hf i h6
    have m1 : mulD (.int hop) (.int i) = some (.int (hop * i)) := mulD_int (mulP_small (by omega) (by omega))
    have sz : (PySem.Str.ofString "abcdefghijklmnopqrstuvwxyz").cps.size = 26 := by decide +kernel
    have g0 : 0 ≤ (r1 + hop * i) % 26 := by omega
    have g1 : (r1 + hop * i) % 26 < 26 := by omega
    have q1' : (PySem.Str.ofString "abcdefghijklmnopqrstuvwxyz").cps[((r1 + hop * i) % 26).toNat]? = some c := by
      unfold L2.atI L2.ixN at q1
      rw [let_len, if_pos g0, if_pos (by omega)] at q1
      have q1 : (PySem.Str.ofString "abcdefghijklmnopqrstuvwxyz").cps.toList[((r1 + hop * i) % 26).toNat]? = some c := q1
      rw [← q1, Array.getElem?_toList]
    have q1'' : ∀ z, (PySem.Str.ofString "abcdefghijklmnopqrstuvwxyz").cps[((r1 + hop * i) % 26).toNat]'z = c := fun z => Option.some.inj ((Array.getElem?_eq_getElem z).symm.trans q1')
    simp [sSeq, sIf, sRetX, sSetX, sPut, sDrop, sRetO_eq, sRetN, sPass, sNil, mBin, mVal, mOwnIx, mOwnIxA, mOwn, mC, mTB, mAnd, mOr, mNot, mCB, mCons, mNil, mTup, mIf, mFree, mCall, mCallO, mIsi, mTru, mUn, mAndV, mOrV, mNotV, mSl, mPart, mNoPart, mCW, mMth, mPop, mOwnL, mStrip, getV_eq, getO_eq, ownL, asB, asI, optO, fin1, fnD, settleX_nil, settleX_cons, settles_nil, settle_nil, settle1_nil, settle_cons, settle1_cons, settles_cons, frz, free, frees, free1, ltD, gtD, leD, geD, ordD, intOf, absD, lenD, lenA, listW, ixD, ixA, L2.atI, L2.ixN, addD, subD, modD, fdvD, powD, Dl.intD, negD, strip_eq, isOwn_eq, truthD, isiD, tyOf, isAny, kt0, kb_NoneType_bool, kb_NoneType_int, kb_NoneType_str, kb_NoneType_tuple, kb_NoneType_list, kb_NoneType_dict, kb_NoneType_float, kb_NoneType_set, kb_bool_bool, kb_bool_int, kb_bool_str, kb_bool_tuple, kb_bool_list, kb_bool_dict, kb_bool_float, kb_bool_set, kb_int_bool, kb_int_int, kb_int_str, kb_int_tuple, kb_int_list, kb_int_dict, kb_int_float, kb_int_set, kb_str_bool, kb_str_int, kb_str_str, kb_str_tuple, kb_str_list, kb_str_dict, kb_str_float, kb_str_set, kb_tuple_bool, kb_tuple_int, kb_tuple_str, kb_tuple_tuple, kb_tuple_list, kb_tuple_dict, kb_tuple_float, kb_tuple_set, kb_list_bool, kb_list_int, kb_list_str, kb_list_tuple, kb_list_list, kb_list_dict, kb_list_float, kb_list_set, kb_dict_bool, kb_dict_int, kb_dict_str, kb_dict_tuple, kb_dict_list, kb_dict_dict, kb_dict_float, kb_dict_set, m1, PySem.sizeLine_eq, let_len2, q3, List.set, sz, g0, g1, q1'', q2]
  rw [cf8]
  unfold bd8
  refine ⟨(List.range 8).map f, p3, ?_, h3.mono (by omega), by simp, ⟨⟨fun c hc => ?_⟩, fun c hc => ?_, fun hc => ?_⟩⟩
  · simp [sSeq, sIf, sRetX, sSetX, sPut, sDrop, sRetO_eq, sRetN, sPass, sNil, mBin, mVal, mOwnIx, mOwnIxA, mOwn, mC, mTB, mAnd, mOr, mNot, mCB, mCons, mNil, mTup, mIf, mFree, mCall, mCallO, mIsi, mTru, mUn, mAndV, mOrV, mNotV, mSl, mPart, mNoPart, mCW, mMth, mPop, mOwnL, mStrip, getV_eq, getO_eq, ownL, asB, asI, optO, fin1, fnD, settleX_nil, settleX_cons, settles_nil, settle_nil, settle1_nil, settle_cons, settle1_cons, settles_cons, frz, free, frees, free1, ltD, gtD, leD, geD, ordD, intOf, absD, lenD, lenA, listW, ixD, ixA, L2.atI, L2.ixN, addD, subD, modD, fdvD, powD, Dl.intD, negD, strip_eq, isOwn_eq, truthD, isiD, tyOf, isAny, kt0, kb_NoneType_bool, kb_NoneType_int, kb_NoneType_str, kb_NoneType_tuple, kb_NoneType_list, kb_NoneType_dict, kb_NoneType_float, kb_NoneType_set, kb_bool_bool, kb_bool_int, kb_bool_str, kb_bool_tuple, kb_bool_list, kb_bool_dict, kb_bool_float, kb_bool_set, kb_int_bool, kb_int_int, kb_int_str, kb_int_tuple, kb_int_list, kb_int_dict, kb_int_float, kb_int_set, kb_str_bool, kb_str_int, kb_str_str, kb_str_tuple, kb_str_list, kb_str_dict, kb_str_float, kb_str_set, kb_tuple_bool, kb_tuple_int, kb_tuple_str, kb_tuple_tuple, kb_tuple_list, kb_tuple_dict, kb_tuple_float, kb_tuple_set, kb_list_bool, kb_list_int, kb_list_str, kb_list_tuple, kb_list_list, kb_list_dict, kb_list_float, kb_list_set, kb_dict_bool, kb_dict_int, kb_dict_str, kb_dict_tuple, kb_dict_list, kb_dict_dict, kb_dict_float, kb_dict_set, PySem.sizeLine_eq, inS, notInS, inA, notInA, noDct, isInD, notInD, inB, flatD, eqF, eqD, neD, eqB, scalEq, isD, isNotD, isB, ofString_beq, ofString_inj, mChain, mAndV, mOrV, mNotV, mApp, kgI, e1, e2, e3, sAsg, frees, aTup, aCons, aNil, aName, mLcX, mLcC, mRange1, rangeD1, small62, noOwn, rangeI_len]
    simp only [modD] at comp
    rw [comp]
    rfl
  · obtain ⟨i, hi, rfl⟩ := List.mem_map.mp hc
    exact (hf i (by simpa using hi)).2.2.1
  · obtain ⟨i, hi, rfl⟩ := List.mem_map.mp hc
    exact (hf i (by simpa using hi)).2.2.2
  · obtain ⟨i, hi, e⟩ := List.mem_map.mp hc
    exact (hf i (by simpa using hi)).2.1 e
/-! conditions, tests -/
theorem cond {n : Nat} {cols : List S} (O : PenOk cs) (h : Pn cs k pen) (hk : k ≤ 3000000) (hc : cols ≠ []) (hc2 : cols.length < 900) : ∃ v pen', callF (n + 3) 9 [.own pen, .lst (strsD cols)] = .ret v [some (.own pen')] ∧ Pn cs (k + 3) pen' ∧ TT cols v 0 0 1 := by
  obtain ⟨x1, p1, m1, e1, h1⟩ := pick (n := n) (l := [.str "less", .str "most", .str "equal", .str "null"]) O h (by omega) (by simp) (by simp) (by simp)
  obtain ⟨x2, p2, m2, e2, h2⟩ := pick (n := n) (l := strsD cols) O h1 (by omega) (by simpa [strsD] using hc) (by simp [strsD]; omega) (by simp [strsD])
  obtain ⟨c, rfl, hcm⟩ : ∃ c : S, x2 = .str c ∧ c ∈ cols := by
    obtain ⟨c, a, b⟩ := List.mem_map.mp m2
    exact ⟨c, b.symm, a⟩
  obtain ⟨x3, p3, m3, e3, h3⟩ := pick (n := n) (l := [.int 0, .int 1, .int 2, .int 5, .int (-3), .int 100000000000000000000]) O h2 (by omega) (by simp) (by simp) (by simp)
  obtain ⟨i, rfl, hi⟩ : ∃ i : Int, x3 = .int i ∧ -10 ≤ i ∧ i ≤ 100000000000000000000 := by
    simp only [List.mem_cons, List.not_mem_nil, or_false] at m3
    rcases m3 with rfl | rfl | rfl | rfl | rfl | rfl <;> exact ⟨_, rfl, by omega, by omega⟩
  have pw : powP 10 20 = true := by decide
  simp only [List.mem_cons, List.not_mem_nil, or_false] at m1
  rcases m1 with rfl | rfl | rfl | rfl
  · refine ⟨_, p3, ?_, h3.mono (by omega), .cmp (w := "less") (k := i) (by simp) hcm (by omega) (by omega)⟩
    rw [cf9]
    unfold bd9
    simp [sSeq, sIf, sRetX, sSetX, sPut, sDrop, sRetO_eq, sRetN, sPass, sNil, mBin, mVal, mOwnIx, mOwnIxA, mOwn, mC, mTB, mAnd, mOr, mNot, mCB, mCons, mNil, mTup, mIf, mFree, mCall, mCallO, mIsi, mTru, mUn, mAndV, mOrV, mNotV, mSl, mPart, mNoPart, mCW, mMth, mPop, mOwnL, mStrip, getV_eq, getO_eq, ownL, asB, asI, optO, fin1, fnD, settleX_nil, settleX_cons, settles_nil, settle_nil, settle1_nil, settle_cons, settle1_cons, settles_cons, frz, free, frees, free1, ltD, gtD, leD, geD, ordD, intOf, absD, lenD, lenA, listW, ixD, ixA, L2.atI, L2.ixN, addD, subD, modD, fdvD, powD, Dl.intD, negD, strip_eq, isOwn_eq, truthD, isiD, tyOf, isAny, kt0, kb_NoneType_bool, kb_NoneType_int, kb_NoneType_str, kb_NoneType_tuple, kb_NoneType_list, kb_NoneType_dict, kb_NoneType_float, kb_NoneType_set, kb_bool_bool, kb_bool_int, kb_bool_str, kb_bool_tuple, kb_bool_list, kb_bool_dict, kb_bool_float, kb_bool_set, kb_int_bool, kb_int_int, kb_int_str, kb_int_tuple, kb_int_list, kb_int_dict, kb_int_float, kb_int_set, kb_str_bool, kb_str_int, kb_str_str, kb_str_tuple, kb_str_list, kb_str_dict, kb_str_float, kb_str_set, kb_tuple_bool, kb_tuple_int, kb_tuple_str, kb_tuple_tuple, kb_tuple_list, kb_tuple_dict, kb_tuple_float, kb_tuple_set, kb_list_bool, kb_list_int, kb_list_str, kb_list_tuple, kb_list_list, kb_list_dict, kb_list_float, kb_list_set, kb_dict_bool, kb_dict_int, kb_dict_str, kb_dict_tuple, kb_dict_list, kb_dict_dict, kb_dict_float, kb_dict_set, PySem.sizeLine_eq, inS, notInS, inA, notInA, noDct, isInD, notInD, inB, flatD, eqF, eqD, neD, eqB, scalEq, isD, isNotD, isB, ofString_beq, ofString_inj, mChain, mAndV, mOrV, mNotV, mApp, kgI, e1, e2, e3, sPar, pw]
  · refine ⟨_, p3, ?_, h3.mono (by omega), .cmp (w := "most") (k := i) (by simp) hcm (by omega) (by omega)⟩
    rw [cf9]
    unfold bd9
    simp [sSeq, sIf, sRetX, sSetX, sPut, sDrop, sRetO_eq, sRetN, sPass, sNil, mBin, mVal, mOwnIx, mOwnIxA, mOwn, mC, mTB, mAnd, mOr, mNot, mCB, mCons, mNil, mTup, mIf, mFree, mCall, mCallO, mIsi, mTru, mUn, mAndV, mOrV, mNotV, mSl, mPart, mNoPart, mCW, mMth, mPop, mOwnL, mStrip, getV_eq, getO_eq, ownL, asB, asI, optO, fin1, fnD, settleX_nil, settleX_cons, settles_nil, settle_nil, settle1_nil, settle_cons, settle1_cons, settles_cons, frz, free, frees, free1, ltD, gtD, leD, geD, ordD, intOf, absD, lenD, lenA, listW, ixD, ixA, L2.atI, L2.ixN, addD, subD, modD, fdvD, powD, Dl.intD, negD, strip_eq, isOwn_eq, truthD, isiD, tyOf, isAny, kt0, kb_NoneType_bool, kb_NoneType_int, kb_NoneType_str, kb_NoneType_tuple, kb_NoneType_list, kb_NoneType_dict, kb_NoneType_float, kb_NoneType_set, kb_bool_bool, kb_bool_int, kb_bool_str, kb_bool_tuple, kb_bool_list, kb_bool_dict, kb_bool_float, kb_bool_set, kb_int_bool, kb_int_int, kb_int_str, kb_int_tuple, kb_int_list, kb_int_dict, kb_int_float, kb_int_set, kb_str_bool, kb_str_int, kb_str_str, kb_str_tuple, kb_str_list, kb_str_dict, kb_str_float, kb_str_set, kb_tuple_bool, kb_tuple_int, kb_tuple_str, kb_tuple_tuple, kb_tuple_list, kb_tuple_dict, kb_tuple_float, kb_tuple_set, kb_list_bool, kb_list_int, kb_list_str, kb_list_tuple, kb_list_list, kb_list_dict, kb_list_float, kb_list_set, kb_dict_bool, kb_dict_int, kb_dict_str, kb_dict_tuple, kb_dict_list, kb_dict_dict, kb_dict_float, kb_dict_set, PySem.sizeLine_eq, inS, notInS, inA, notInA, noDct, isInD, notInD, inB, flatD, eqF, eqD, neD, eqB, scalEq, isD, isNotD, isB, ofString_beq, ofString_inj, mChain, mAndV, mOrV, mNotV, mApp, kgI, e1, e2, e3, sPar, pw]
  · refine ⟨_, p3, ?_, h3.mono (by omega), .cmp (w := "equal") (k := i) (by simp) hcm (by omega) (by omega)⟩
    rw [cf9]
    unfold bd9
    simp [sSeq, sIf, sRetX, sSetX, sPut, sDrop, sRetO_eq, sRetN, sPass, sNil, mBin, mVal, mOwnIx, mOwnIxA, mOwn, mC, mTB, mAnd, mOr, mNot, mCB, mCons, mNil, mTup, mIf, mFree, mCall, mCallO, mIsi, mTru, mUn, mAndV, mOrV, mNotV, mSl, mPart, mNoPart, mCW, mMth, mPop, mOwnL, mStrip, getV_eq, getO_eq, ownL, asB, asI, optO, fin1, fnD, settleX_nil, settleX_cons, settles_nil, settle_nil, settle1_nil, settle_cons, settle1_cons, settles_cons, frz, free, frees, free1, ltD, gtD, leD, geD, ordD, intOf, absD, lenD, lenA, listW, ixD, ixA, L2.atI, L2.ixN, addD, subD, modD, fdvD, powD, Dl.intD, negD, strip_eq, isOwn_eq, truthD, isiD, tyOf, isAny, kt0, kb_NoneType_bool, kb_NoneType_int, kb_NoneType_str, kb_NoneType_tuple, kb_NoneType_list, kb_NoneType_dict, kb_NoneType_float, kb_NoneType_set, kb_bool_bool, kb_bool_int, kb_bool_str, kb_bool_tuple, kb_bool_list, kb_bool_dict, kb_bool_float, kb_bool_set, kb_int_bool, kb_int_int, kb_int_str, kb_int_tuple, kb_int_list, kb_int_dict, kb_int_float, kb_int_set, kb_str_bool, kb_str_int, kb_str_str, kb_str_tuple, kb_str_list, kb_str_dict, kb_str_float, kb_str_set, kb_tuple_bool, kb_tuple_int, kb_tuple_str, kb_tuple_tuple, kb_tuple_list, kb_tuple_dict, kb_tuple_float, kb_tuple_set, kb_list_bool, kb_list_int, kb_list_str, kb_list_tuple, kb_list_list, kb_list_dict, kb_list_float, kb_list_set, kb_dict_bool, kb_dict_int, kb_dict_str, kb_dict_tuple, kb_dict_list, kb_dict_dict, kb_dict_float, kb_dict_set, PySem.sizeLine_eq, inS, notInS, inA, notInA, noDct, isInD, notInD, inB, flatD, eqF, eqD, neD, eqB, scalEq, isD, isNotD, isB, ofString_beq, ofString_inj, mChain, mAndV, mOrV, mNotV, mApp, kgI, e1, e2, e3, sPar, pw]
  · refine ⟨_, p2, ?_, h2.mono (by omega), .nul hcm⟩
    rw [cf9]
    unfold bd9
    simp [sSeq, sIf, sRetX, sSetX, sPut, sDrop, sRetO_eq, sRetN, sPass, sNil, mBin, mVal, mOwnIx, mOwnIxA, mOwn, mC, mTB, mAnd, mOr, mNot, mCB, mCons, mNil, mTup, mIf, mFree, mCall, mCallO, mIsi, mTru, mUn, mAndV, mOrV, mNotV, mSl, mPart, mNoPart, mCW, mMth, mPop, mOwnL, mStrip, getV_eq, getO_eq, ownL, asB, asI, optO, fin1, fnD, settleX_nil, settleX_cons, settles_nil, settle_nil, settle1_nil, settle_cons, settle1_cons, settles_cons, frz, free, frees, free1, ltD, gtD, leD, geD, ordD, intOf, absD, lenD, lenA, listW, ixD, ixA, L2.atI, L2.ixN, addD, subD, modD, fdvD, powD, Dl.intD, negD, strip_eq, isOwn_eq, truthD, isiD, tyOf, isAny, kt0, kb_NoneType_bool, kb_NoneType_int, kb_NoneType_str, kb_NoneType_tuple, kb_NoneType_list, kb_NoneType_dict, kb_NoneType_float, kb_NoneType_set, kb_bool_bool, kb_bool_int, kb_bool_str, kb_bool_tuple, kb_bool_list, kb_bool_dict, kb_bool_float, kb_bool_set, kb_int_bool, kb_int_int, kb_int_str, kb_int_tuple, kb_int_list, kb_int_dict, kb_int_float, kb_int_set, kb_str_bool, kb_str_int, kb_str_str, kb_str_tuple, kb_str_list, kb_str_dict, kb_str_float, kb_str_set, kb_tuple_bool, kb_tuple_int, kb_tuple_str, kb_tuple_tuple, kb_tuple_list, kb_tuple_dict, kb_tuple_float, kb_tuple_set, kb_list_bool, kb_list_int, kb_list_str, kb_list_tuple, kb_list_list, kb_list_dict, kb_list_float, kb_list_set, kb_dict_bool, kb_dict_int, kb_dict_str, kb_dict_tuple, kb_dict_list, kb_dict_dict, kb_dict_float, kb_dict_set, PySem.sizeLine_eq, inS, notInS, inA, notInA, noDct, isInD, notInD, inB, flatD, eqF, eqD, neD, eqB, scalEq, isD, isNotD, isB, ofString_beq, ofString_inj, mChain, mAndV, mOrV, mNotV, mApp, kgI, e1, e2, e3, sPar, pw]
theorem test {cols : List S} (O : PenOk cs) (hc : cols ≠ []) (hc2 : cols.length < 900) : ∀ (deep : Nat) (n : Nat) (k : Int) (pen : D), deep + 5 ≤ n → deep ≤ 8 → Pn cs k pen → k + 6 * 2 ^ deep ≤ 3000000 → ∃ v pen' s d m, callF n 10 [.own pen, .lst (strsD cols), .int deep] = .ret v [some (.own pen')] ∧ Pn cs (k + (6 * 2 ^ deep - 2)) pen' ∧ TT cols v s d m ∧ d ≤ deep := by
  intro deep
  induction deep with
  | zero =>
    intro n k pen hn _ h hk
    obtain ⟨j, rfl⟩ : ∃ j, n = j + 4 := ⟨n - 4, by omega⟩
    obtain ⟨r1, p1, e1, h1, a1, b1⟩ := draw (n := j + 2) (many := 6) O h (by omega) (by omega)
    obtain ⟨v, p2, e2, h2, q⟩ := cond (n := j) O h1 (by omega) hc hc2
    refine ⟨v, p2, 0, 0, 1, ?_, h2.mono (by omega), q, by omega⟩
    rw [cf10]
    have o1 := q.own
    unfold bd10
    simp [sSeq, sIf, sRetX, sSetX, sPut, sDrop, sRetO_eq, sRetN, sPass, sNil, mBin, mVal, mOwnIx, mOwnIxA, mOwn, mC, mTB, mAnd, mOr, mNot, mCB, mCons, mNil, mTup, mIf, mFree, mCall, mCallO, mIsi, mTru, mUn, mAndV, mOrV, mNotV, mSl, mPart, mNoPart, mCW, mMth, mPop, mOwnL, mStrip, getV_eq, getO_eq, ownL, asB, asI, optO, fin1, fnD, settleX_nil, settleX_cons, settles_nil, settle_nil, settle1_nil, settle_cons, settle1_cons, settles_cons, frz, free, frees, free1, ltD, gtD, leD, geD, ordD, intOf, absD, lenD, lenA, listW, ixD, ixA, L2.atI, L2.ixN, addD, subD, modD, fdvD, powD, Dl.intD, negD, strip_eq, isOwn_eq, truthD, isiD, tyOf, isAny, kt0, kb_NoneType_bool, kb_NoneType_int, kb_NoneType_str, kb_NoneType_tuple, kb_NoneType_list, kb_NoneType_dict, kb_NoneType_float, kb_NoneType_set, kb_bool_bool, kb_bool_int, kb_bool_str, kb_bool_tuple, kb_bool_list, kb_bool_dict, kb_bool_float, kb_bool_set, kb_int_bool, kb_int_int, kb_int_str, kb_int_tuple, kb_int_list, kb_int_dict, kb_int_float, kb_int_set, kb_str_bool, kb_str_int, kb_str_str, kb_str_tuple, kb_str_list, kb_str_dict, kb_str_float, kb_str_set, kb_tuple_bool, kb_tuple_int, kb_tuple_str, kb_tuple_tuple, kb_tuple_list, kb_tuple_dict, kb_tuple_float, kb_tuple_set, kb_list_bool, kb_list_int, kb_list_str, kb_list_tuple, kb_list_list, kb_list_dict, kb_list_float, kb_list_set, kb_dict_bool, kb_dict_int, kb_dict_str, kb_dict_tuple, kb_dict_list, kb_dict_dict, kb_dict_float, kb_dict_set, PySem.sizeLine_eq, inS, notInS, inA, notInA, noDct, isInD, notInD, inB, flatD, eqF, eqD, neD, eqB, scalEq, isD, isNotD, isB, ofString_beq, ofString_inj, mChain, mAndV, mOrV, mNotV, mApp, kgI, e1, e2, o1]
  | succ deep ih =>
    intro n k pen hn hd h hk
    obtain ⟨j, rfl⟩ : ∃ j, n = j + 4 := ⟨n - 4, by omega⟩
    have pw : (2 : Nat) ^ deep ≤ 2 ^ 8 := Nat.pow_le_pow_right (by omega) (by omega)
    have pw2 : (2 : Nat) ^ (deep + 1) = 2 * 2 ^ deep := by rw [Nat.pow_succ]; omega
    have pw3 : (1 : Nat) ≤ 2 ^ deep := Nat.one_le_two_pow
    have pi : ((2 : Int) ^ (deep + 1)) = 2 * 2 ^ deep := by rw [Int.pow_succ]; omega
    have pj : ((2 : Int) ^ deep) = ((2 ^ deep : Nat) : Int) := by simp
    obtain ⟨r1, p1, e1, h1, a1, b1⟩ := draw (n := j + 2) (many := 6) O h (by omega) (by omega)
    have b1 := b1 (by omega)
    have c0 : ¬ ((deep : Int) + 1 = 0) := by omega
    have c2 : (deep : Int) + 1 - 1 = deep := by omega
    by_cases hw : r1 < 3
    · obtain ⟨v, p2, e2, h2, q⟩ := cond (n := j) O h1 (by omega) hc hc2
      refine ⟨v, p2, 0, 0, 1, ?_, h2.mono (by omega), q, by omega⟩
      rw [cf10]
      have o1 := q.own
      unfold bd10
      simp [sSeq, sIf, sRetX, sSetX, sPut, sDrop, sRetO_eq, sRetN, sPass, sNil, mBin, mVal, mOwnIx, mOwnIxA, mOwn, mC, mTB, mAnd, mOr, mNot, mCB, mCons, mNil, mTup, mIf, mFree, mCall, mCallO, mIsi, mTru, mUn, mAndV, mOrV, mNotV, mSl, mPart, mNoPart, mCW, mMth, mPop, mOwnL, mStrip, getV_eq, getO_eq, ownL, asB, asI, optO, fin1, fnD, settleX_nil, settleX_cons, settles_nil, settle_nil, settle1_nil, settle_cons, settle1_cons, settles_cons, frz, free, frees, free1, ltD, gtD, leD, geD, ordD, intOf, absD, lenD, lenA, listW, ixD, ixA, L2.atI, L2.ixN, addD, subD, modD, fdvD, powD, Dl.intD, negD, strip_eq, isOwn_eq, truthD, isiD, tyOf, isAny, kt0, kb_NoneType_bool, kb_NoneType_int, kb_NoneType_str, kb_NoneType_tuple, kb_NoneType_list, kb_NoneType_dict, kb_NoneType_float, kb_NoneType_set, kb_bool_bool, kb_bool_int, kb_bool_str, kb_bool_tuple, kb_bool_list, kb_bool_dict, kb_bool_float, kb_bool_set, kb_int_bool, kb_int_int, kb_int_str, kb_int_tuple, kb_int_list, kb_int_dict, kb_int_float, kb_int_set, kb_str_bool, kb_str_int, kb_str_str, kb_str_tuple, kb_str_list, kb_str_dict, kb_str_float, kb_str_set, kb_tuple_bool, kb_tuple_int, kb_tuple_str, kb_tuple_tuple, kb_tuple_list, kb_tuple_dict, kb_tuple_float, kb_tuple_set, kb_list_bool, kb_list_int, kb_list_str, kb_list_tuple, kb_list_list, kb_list_dict, kb_list_float, kb_list_set, kb_dict_bool, kb_dict_int, kb_dict_str, kb_dict_tuple, kb_dict_list, kb_dict_dict, kb_dict_float, kb_dict_set, PySem.sizeLine_eq, inS, notInS, inA, notInA, noDct, isInD, notInD, inB, flatD, eqF, eqD, neD, eqB, scalEq, isD, isNotD, isB, ofString_beq, ofString_inj, mChain, mAndV, mOrV, mNotV, mApp, kgI, e1, e2, o1, hw, c0]
    by_cases hw3 : r1 = 3
    · subst hw3
      obtain ⟨v, p2, s, d, m, e2, h2, q, hq⟩ := ih (j + 3) (k + 1) p1 (by omega) (by omega) h1 (by omega)
      refine ⟨_, p2, _, _, _, ?_, h2.mono (by omega), .not q, by omega⟩
      rw [cf10]
      have o1 := q.own
      unfold bd10
      simp [sSeq, sIf, sRetX, sSetX, sPut, sDrop, sRetO_eq, sRetN, sPass, sNil, mBin, mVal, mOwnIx, mOwnIxA, mOwn, mC, mTB, mAnd, mOr, mNot, mCB, mCons, mNil, mTup, mIf, mFree, mCall, mCallO, mIsi, mTru, mUn, mAndV, mOrV, mNotV, mSl, mPart, mNoPart, mCW, mMth, mPop, mOwnL, mStrip, getV_eq, getO_eq, ownL, asB, asI, optO, fin1, fnD, settleX_nil, settleX_cons, settles_nil, settle_nil, settle1_nil, settle_cons, settle1_cons, settles_cons, frz, free, frees, free1, ltD, gtD, leD, geD, ordD, intOf, absD, lenD, lenA, listW, ixD, ixA, L2.atI, L2.ixN, addD, subD, modD, fdvD, powD, Dl.intD, negD, strip_eq, isOwn_eq, truthD, isiD, tyOf, isAny, kt0, kb_NoneType_bool, kb_NoneType_int, kb_NoneType_str, kb_NoneType_tuple, kb_NoneType_list, kb_NoneType_dict, kb_NoneType_float, kb_NoneType_set, kb_bool_bool, kb_bool_int, kb_bool_str, kb_bool_tuple, kb_bool_list, kb_bool_dict, kb_bool_float, kb_bool_set, kb_int_bool, kb_int_int, kb_int_str, kb_int_tuple, kb_int_list, kb_int_dict, kb_int_float, kb_int_set, kb_str_bool, kb_str_int, kb_str_str, kb_str_tuple, kb_str_list, kb_str_dict, kb_str_float, kb_str_set, kb_tuple_bool, kb_tuple_int, kb_tuple_str, kb_tuple_tuple, kb_tuple_list, kb_tuple_dict, kb_tuple_float, kb_tuple_set, kb_list_bool, kb_list_int, kb_list_str, kb_list_tuple, kb_list_list, kb_list_dict, kb_list_float, kb_list_set, kb_dict_bool, kb_dict_int, kb_dict_str, kb_dict_tuple, kb_dict_list, kb_dict_dict, kb_dict_float, kb_dict_set, PySem.sizeLine_eq, inS, notInS, inA, notInA, noDct, isInD, notInD, inB, flatD, eqF, eqD, neD, eqB, scalEq, isD, isNotD, isB, ofString_beq, ofString_inj, mChain, mAndV, mOrV, mNotV, mApp, kgI, e1, e2, o1, c0, c2]
    · obtain ⟨x0, p0, m0, e0, h0⟩ := pick (n := j + 1) (l := [.str "and", .str "or"]) O h1 (by omega) (by simp) (by simp) (by simp)
      obtain ⟨v, p2, s, d, m, e2, h2, q, hq⟩ := ih (j + 3) (k + 1 + 1) p0 (by omega) (by omega) h0 (by omega)
      obtain ⟨v', p3, s', d', m', e3, h3, q', hq'⟩ := ih (j + 3) _ p2 (by omega) (by omega) h2 (by omega)
      have o1 := q.own
      have o2 := q'.own
      obtain ⟨w, rfl, hw'⟩ : ∃ w : S, x0 = .str w ∧ w ∈ (["and", "or"] : List S) := by
        simp only [List.mem_cons, List.not_mem_nil, or_false] at m0
        rcases m0 with rfl | rfl
        · exact ⟨_, rfl, by simp⟩
        · exact ⟨_, rfl, by simp⟩
      refine ⟨_, p3, _, _, _, ?_, h3.mono (by omega), .bin hw' q q', by omega⟩
      rw [cf10]
      unfold bd10
      simp [sSeq, sIf, sRetX, sSetX, sPut, sDrop, sRetO_eq, sRetN, sPass, sNil, mBin, mVal, mOwnIx, mOwnIxA, mOwn, mC, mTB, mAnd, mOr, mNot, mCB, mCons, mNil, mTup, mIf, mFree, mCall, mCallO, mIsi, mTru, mUn, mAndV, mOrV, mNotV, mSl, mPart, mNoPart, mCW, mMth, mPop, mOwnL, mStrip, getV_eq, getO_eq, ownL, asB, asI, optO, fin1, fnD, settleX_nil, settleX_cons, settles_nil, settle_nil, settle1_nil, settle_cons, settle1_cons, settles_cons, frz, free, frees, free1, ltD, gtD, leD, geD, ordD, intOf, absD, lenD, lenA, listW, ixD, ixA, L2.atI, L2.ixN, addD, subD, modD, fdvD, powD, Dl.intD, negD, strip_eq, isOwn_eq, truthD, isiD, tyOf, isAny, kt0, kb_NoneType_bool, kb_NoneType_int, kb_NoneType_str, kb_NoneType_tuple, kb_NoneType_list, kb_NoneType_dict, kb_NoneType_float, kb_NoneType_set, kb_bool_bool, kb_bool_int, kb_bool_str, kb_bool_tuple, kb_bool_list, kb_bool_dict, kb_bool_float, kb_bool_set, kb_int_bool, kb_int_int, kb_int_str, kb_int_tuple, kb_int_list, kb_int_dict, kb_int_float, kb_int_set, kb_str_bool, kb_str_int, kb_str_str, kb_str_tuple, kb_str_list, kb_str_dict, kb_str_float, kb_str_set, kb_tuple_bool, kb_tuple_int, kb_tuple_str, kb_tuple_tuple, kb_tuple_list, kb_tuple_dict, kb_tuple_float, kb_tuple_set, kb_list_bool, kb_list_int, kb_list_str, kb_list_tuple, kb_list_list, kb_list_dict, kb_list_float, kb_list_set, kb_dict_bool, kb_dict_int, kb_dict_str, kb_dict_tuple, kb_dict_list, kb_dict_dict, kb_dict_float, kb_dict_set, PySem.sizeLine_eq, inS, notInS, inA, notInA, noDct, isInD, notInD, inB, flatD, eqF, eqD, neD, eqB, scalEq, isD, isNotD, isB, ofString_beq, ofString_inj, mChain, mAndV, mOrV, mNotV, mApp, kgI, e0, e1, e2, e3, o1, o2, hw, hw3, c0, c2]
theorem question {names cols : List S} (O : PenOk cs) (okc : SOk cols) (hn0 : names ≠ []) (hn2 : names.length < 900) (hc2 : cols.length < 900) : ∀ (deep : Nat) (n : Nat) (k : Int) (pen : D), deep + 8 ≤ n → deep ≤ 8 → Pn cs k pen → k + 16 * 2 ^ deep ≤ 3000000 →
    ∃ v pen' s d m, callF n 11 [.own pen, .lst (strsD names), .lst (strsD cols), .int deep] = .ret v [some (.own pen')] ∧ Pn cs (k + (16 * 2 ^ deep - 13)) pen' ∧ QT names cols v s d m ∧ d ≤ deep := by
  have leaf : ∀ (deep : Nat) (n : Nat) (k : Int) (pen : D), 8 ≤ n → Pn cs k pen → k ≤ 3000000 → ∀ (r1 : Int) (p1 : D), callF (n - 1) 6 [.own pen, .int 9] = .ret (.int r1) [some (.own p1)] → Pn cs (k + 1) p1 → (deep = 0 ∨ r1 < 2) →
      ∃ v pen' m, callF n 11 [.own pen, .lst (strsD names), .lst (strsD cols), .int deep] = .ret v [some (.own pen')] ∧ Pn cs (k + 3) pen' ∧ QT names cols v 0 0 m := by
    intro deep n k pen hn h hk r1 p1 e1 h1 hw
    obtain ⟨j, rfl⟩ : ∃ j, n = j + 4 := ⟨n - 4, by omega⟩
    have e1 : callF (j + 3) 6 [.own pen, .int 9] = .ret (.int r1) [some (.own p1)] := e1
    obtain ⟨r2, p2, e2, h2, a2, b2⟩ := draw (n := j + 2) (many := 12) O h1 (by omega) (by omega)
    obtain ⟨x, p3, m3, e3, h3⟩ := pick (n := j + 1) (l := strsD names) O h2 (by omega) (by simpa [strsD] using hn0) (by simp [strsD]; omega) (by simp [strsD])
    obtain ⟨t, rfl, ht⟩ : ∃ c : S, x = .str c ∧ c ∈ names := by
      obtain ⟨c, a, b⟩ := List.mem_map.mp m3
      exact ⟨c, b.symm, a⟩
    by_cases hr : r2 = 0
    · subst hr
      refine ⟨_, p2, 1, ?_, h2.mono (by omega), .none⟩
      rw [cf11]
      unfold bd11
      rcases hw with rfl | hw
      · simp [sSeq, sIf, sRetX, sSetX, sPut, sDrop, sRetO_eq, sRetN, sPass, sNil, mBin, mVal, mOwnIx, mOwnIxA, mOwn, mC, mTB, mAnd, mOr, mNot, mCB, mCons, mNil, mTup, mIf, mFree, mCall, mCallO, mIsi, mTru, mUn, mAndV, mOrV, mNotV, mSl, mPart, mNoPart, mCW, mMth, mPop, mOwnL, mStrip, getV_eq, getO_eq, ownL, asB, asI, optO, fin1, fnD, settleX_nil, settleX_cons, settles_nil, settle_nil, settle1_nil, settle_cons, settle1_cons, settles_cons, frz, free, frees, free1, ltD, gtD, leD, geD, ordD, intOf, absD, lenD, lenA, listW, ixD, ixA, L2.atI, L2.ixN, addD, subD, modD, fdvD, powD, Dl.intD, negD, strip_eq, isOwn_eq, truthD, isiD, tyOf, isAny, kt0, kb_NoneType_bool, kb_NoneType_int, kb_NoneType_str, kb_NoneType_tuple, kb_NoneType_list, kb_NoneType_dict, kb_NoneType_float, kb_NoneType_set, kb_bool_bool, kb_bool_int, kb_bool_str, kb_bool_tuple, kb_bool_list, kb_bool_dict, kb_bool_float, kb_bool_set, kb_int_bool, kb_int_int, kb_int_str, kb_int_tuple, kb_int_list, kb_int_dict, kb_int_float, kb_int_set, kb_str_bool, kb_str_int, kb_str_str, kb_str_tuple, kb_str_list, kb_str_dict, kb_str_float, kb_str_set, kb_tuple_bool, kb_tuple_int, kb_tuple_str, kb_tuple_tuple, kb_tuple_list, kb_tuple_dict, kb_tuple_float, kb_tuple_set, kb_list_bool, kb_list_int, kb_list_str, kb_list_tuple, kb_list_list, kb_list_dict, kb_list_float, kb_list_set, kb_dict_bool, kb_dict_int, kb_dict_str, kb_dict_tuple, kb_dict_list, kb_dict_dict, kb_dict_float, kb_dict_set, PySem.sizeLine_eq, inS, notInS, inA, notInA, noDct, isInD, notInD, inB, flatD, eqF, eqD, neD, eqB, scalEq, isD, isNotD, isB, ofString_beq, ofString_inj, mChain, mAndV, mOrV, mNotV, mApp, kgI, e1, e2, e3]
      · by_cases hz : deep = 0
        · subst hz
          simp [sSeq, sIf, sRetX, sSetX, sPut, sDrop, sRetO_eq, sRetN, sPass, sNil, mBin, mVal, mOwnIx, mOwnIxA, mOwn, mC, mTB, mAnd, mOr, mNot, mCB, mCons, mNil, mTup, mIf, mFree, mCall, mCallO, mIsi, mTru, mUn, mAndV, mOrV, mNotV, mSl, mPart, mNoPart, mCW, mMth, mPop, mOwnL, mStrip, getV_eq, getO_eq, ownL, asB, asI, optO, fin1, fnD, settleX_nil, settleX_cons, settles_nil, settle_nil, settle1_nil, settle_cons, settle1_cons, settles_cons, frz, free, frees, free1, ltD, gtD, leD, geD, ordD, intOf, absD, lenD, lenA, listW, ixD, ixA, L2.atI, L2.ixN, addD, subD, modD, fdvD, powD, Dl.intD, negD, strip_eq, isOwn_eq, truthD, isiD, tyOf, isAny, kt0, kb_NoneType_bool, kb_NoneType_int, kb_NoneType_str, kb_NoneType_tuple, kb_NoneType_list, kb_NoneType_dict, kb_NoneType_float, kb_NoneType_set, kb_bool_bool, kb_bool_int, kb_bool_str, kb_bool_tuple, kb_bool_list, kb_bool_dict, kb_bool_float, kb_bool_set, kb_int_bool, kb_int_int, kb_int_str, kb_int_tuple, kb_int_list, kb_int_dict, kb_int_float, kb_int_set, kb_str_bool, kb_str_int, kb_str_str, kb_str_tuple, kb_str_list, kb_str_dict, kb_str_float, kb_str_set, kb_tuple_bool, kb_tuple_int, kb_tuple_str, kb_tuple_tuple, kb_tuple_list, kb_tuple_dict, kb_tuple_float, kb_tuple_set, kb_list_bool, kb_list_int, kb_list_str, kb_list_tuple, kb_list_list, kb_list_dict, kb_list_float, kb_list_set, kb_dict_bool, kb_dict_int, kb_dict_str, kb_dict_tuple, kb_dict_list, kb_dict_dict, kb_dict_float, kb_dict_set, PySem.sizeLine_eq, inS, notInS, inA, notInA, noDct, isInD, notInD, inB, flatD, eqF, eqD, neD, eqB, scalEq, isD, isNotD, isB, ofString_beq, ofString_inj, mChain, mAndV, mOrV, mNotV, mApp, kgI, e1, e2, e3]
        · simp [sSeq, sIf, sRetX, sSetX, sPut, sDrop, sRetO_eq, sRetN, sPass, sNil, mBin, mVal, mOwnIx, mOwnIxA, mOwn, mC, mTB, mAnd, mOr, mNot, mCB, mCons, mNil, mTup, mIf, mFree, mCall, mCallO, mIsi, mTru, mUn, mAndV, mOrV, mNotV, mSl, mPart, mNoPart, mCW, mMth, mPop, mOwnL, mStrip, getV_eq, getO_eq, ownL, asB, asI, optO, fin1, fnD, settleX_nil, settleX_cons, settles_nil, settle_nil, settle1_nil, settle_cons, settle1_cons, settles_cons, frz, free, frees, free1, ltD, gtD, leD, geD, ordD, intOf, absD, lenD, lenA, listW, ixD, ixA, L2.atI, L2.ixN, addD, subD, modD, fdvD, powD, Dl.intD, negD, strip_eq, isOwn_eq, truthD, isiD, tyOf, isAny, kt0, kb_NoneType_bool, kb_NoneType_int, kb_NoneType_str, kb_NoneType_tuple, kb_NoneType_list, kb_NoneType_dict, kb_NoneType_float, kb_NoneType_set, kb_bool_bool, kb_bool_int, kb_bool_str, kb_bool_tuple, kb_bool_list, kb_bool_dict, kb_bool_float, kb_bool_set, kb_int_bool, kb_int_int, kb_int_str, kb_int_tuple, kb_int_list, kb_int_dict, kb_int_float, kb_int_set, kb_str_bool, kb_str_int, kb_str_str, kb_str_tuple, kb_str_list, kb_str_dict, kb_str_float, kb_str_set, kb_tuple_bool, kb_tuple_int, kb_tuple_str, kb_tuple_tuple, kb_tuple_list, kb_tuple_dict, kb_tuple_float, kb_tuple_set, kb_list_bool, kb_list_int, kb_list_str, kb_list_tuple, kb_list_list, kb_list_dict, kb_list_float, kb_list_set, kb_dict_bool, kb_dict_int, kb_dict_str, kb_dict_tuple, kb_dict_list, kb_dict_dict, kb_dict_float, kb_dict_set, PySem.sizeLine_eq, inS, notInS, inA, notInA, noDct, isInD, notInD, inB, flatD, eqF, eqD, neD, eqB, scalEq, isD, isNotD, isB, ofString_beq, ofString_inj, mChain, mAndV, mOrV, mNotV, mApp, kgI, e1, e2, e3, hw, hz]
    · refine ⟨_, p3, 1, ?_, h3.mono (by omega), .of ht⟩
      rw [cf11]
      unfold bd11
      rcases hw with rfl | hw
      · simp [sSeq, sIf, sRetX, sSetX, sPut, sDrop, sRetO_eq, sRetN, sPass, sNil, mBin, mVal, mOwnIx, mOwnIxA, mOwn, mC, mTB, mAnd, mOr, mNot, mCB, mCons, mNil, mTup, mIf, mFree, mCall, mCallO, mIsi, mTru, mUn, mAndV, mOrV, mNotV, mSl, mPart, mNoPart, mCW, mMth, mPop, mOwnL, mStrip, getV_eq, getO_eq, ownL, asB, asI, optO, fin1, fnD, settleX_nil, settleX_cons, settles_nil, settle_nil, settle1_nil, settle_cons, settle1_cons, settles_cons, frz, free, frees, free1, ltD, gtD, leD, geD, ordD, intOf, absD, lenD, lenA, listW, ixD, ixA, L2.atI, L2.ixN, addD, subD, modD, fdvD, powD, Dl.intD, negD, strip_eq, isOwn_eq, truthD, isiD, tyOf, isAny, kt0, kb_NoneType_bool, kb_NoneType_int, kb_NoneType_str, kb_NoneType_tuple, kb_NoneType_list, kb_NoneType_dict, kb_NoneType_float, kb_NoneType_set, kb_bool_bool, kb_bool_int, kb_bool_str, kb_bool_tuple, kb_bool_list, kb_bool_dict, kb_bool_float, kb_bool_set, kb_int_bool, kb_int_int, kb_int_str, kb_int_tuple, kb_int_list, kb_int_dict, kb_int_float, kb_int_set, kb_str_bool, kb_str_int, kb_str_str, kb_str_tuple, kb_str_list, kb_str_dict, kb_str_float, kb_str_set, kb_tuple_bool, kb_tuple_int, kb_tuple_str, kb_tuple_tuple, kb_tuple_list, kb_tuple_dict, kb_tuple_float, kb_tuple_set, kb_list_bool, kb_list_int, kb_list_str, kb_list_tuple, kb_list_list, kb_list_dict, kb_list_float, kb_list_set, kb_dict_bool, kb_dict_int, kb_dict_str, kb_dict_tuple, kb_dict_list, kb_dict_dict, kb_dict_float, kb_dict_set, PySem.sizeLine_eq, inS, notInS, inA, notInA, noDct, isInD, notInD, inB, flatD, eqF, eqD, neD, eqB, scalEq, isD, isNotD, isB, ofString_beq, ofString_inj, mChain, mAndV, mOrV, mNotV, mApp, kgI, e1, e2, e3, hr]
      · by_cases hz : deep = 0
        · subst hz
          simp [sSeq, sIf, sRetX, sSetX, sPut, sDrop, sRetO_eq, sRetN, sPass, sNil, mBin, mVal, mOwnIx, mOwnIxA, mOwn, mC, mTB, mAnd, mOr, mNot, mCB, mCons, mNil, mTup, mIf, mFree, mCall, mCallO, mIsi, mTru, mUn, mAndV, mOrV, mNotV, mSl, mPart, mNoPart, mCW, mMth, mPop, mOwnL, mStrip, getV_eq, getO_eq, ownL, asB, asI, optO, fin1, fnD, settleX_nil, settleX_cons, settles_nil, settle_nil, settle1_nil, settle_cons, settle1_cons, settles_cons, frz, free, frees, free1, ltD, gtD, leD, geD, ordD, intOf, absD, lenD, lenA, listW, ixD, ixA, L2.atI, L2.ixN, addD, subD, modD, fdvD, powD, Dl.intD, negD, strip_eq, isOwn_eq, truthD, isiD, tyOf, isAny, kt0, kb_NoneType_bool, kb_NoneType_int, kb_NoneType_str, kb_NoneType_tuple, kb_NoneType_list, kb_NoneType_dict, kb_NoneType_float, kb_NoneType_set, kb_bool_bool, kb_bool_int, kb_bool_str, kb_bool_tuple, kb_bool_list, kb_bool_dict, kb_bool_float, kb_bool_set, kb_int_bool, kb_int_int, kb_int_str, kb_int_tuple, kb_int_list, kb_int_dict, kb_int_float, kb_int_set, kb_str_bool, kb_str_int, kb_str_str, kb_str_tuple, kb_str_list, kb_str_dict, kb_str_float, kb_str_set, kb_tuple_bool, kb_tuple_int, kb_tuple_str, kb_tuple_tuple, kb_tuple_list, kb_tuple_dict, kb_tuple_float, kb_tuple_set, kb_list_bool, kb_list_int, kb_list_str, kb_list_tuple, kb_list_list, kb_list_dict, kb_list_float, kb_list_set, kb_dict_bool, kb_dict_int, kb_dict_str, kb_dict_tuple, kb_dict_list, kb_dict_dict, kb_dict_float, kb_dict_set, PySem.sizeLine_eq, inS, notInS, inA, notInA, noDct, isInD, notInD, inB, flatD, eqF, eqD, neD, eqB, scalEq, isD, isNotD, isB, ofString_beq, ofString_inj, mChain, mAndV, mOrV, mNotV, mApp, kgI, e1, e2, e3, hr]
        · simp [sSeq, sIf, sRetX, sSetX, sPut, sDrop, sRetO_eq, sRetN, sPass, sNil, mBin, mVal, mOwnIx, mOwnIxA, mOwn, mC, mTB, mAnd, mOr, mNot, mCB, mCons, mNil, mTup, mIf, mFree, mCall, mCallO, mIsi, mTru, mUn, mAndV, mOrV, mNotV, mSl, mPart, mNoPart, mCW, mMth, mPop, mOwnL, mStrip, getV_eq, getO_eq, ownL, asB, asI, optO, fin1, fnD, settleX_nil, settleX_cons, settles_nil, settle_nil, settle1_nil, settle_cons, settle1_cons, settles_cons, frz, free, frees, free1, ltD, gtD, leD, geD, ordD, intOf, absD, lenD, lenA, listW, ixD, ixA, L2.atI, L2.ixN, addD, subD, modD, fdvD, powD, Dl.intD, negD, strip_eq, isOwn_eq, truthD, isiD, tyOf, isAny, kt0, kb_NoneType_bool, kb_NoneType_int, kb_NoneType_str, kb_NoneType_tuple, kb_NoneType_list, kb_NoneType_dict, kb_NoneType_float, kb_NoneType_set, kb_bool_bool, kb_bool_int, kb_bool_str, kb_bool_tuple, kb_bool_list, kb_bool_dict, kb_bool_float, kb_bool_set, kb_int_bool, kb_int_int, kb_int_str, kb_int_tuple, kb_int_list, kb_int_dict, kb_int_float, kb_int_set, kb_str_bool, kb_str_int, kb_str_str, kb_str_tuple, kb_str_list, kb_str_dict, kb_str_float, kb_str_set, kb_tuple_bool, kb_tuple_int, kb_tuple_str, kb_tuple_tuple, kb_tuple_list, kb_tuple_dict, kb_tuple_float, kb_tuple_set, kb_list_bool, kb_list_int, kb_list_str, kb_list_tuple, kb_list_list, kb_list_dict, kb_list_float, kb_list_set, kb_dict_bool, kb_dict_int, kb_dict_str, kb_dict_tuple, kb_dict_list, kb_dict_dict, kb_dict_float, kb_dict_set, PySem.sizeLine_eq, inS, notInS, inA, notInA, noDct, isInD, notInD, inB, flatD, eqF, eqD, neD, eqB, scalEq, isD, isNotD, isB, ofString_beq, ofString_inj, mChain, mAndV, mOrV, mNotV, mApp, kgI, e1, e2, e3, hr, hw, hz]
  intro deep
  induction deep with
  | zero =>
    intro n k pen hn _ h hk
    obtain ⟨j, rfl⟩ : ∃ j, n = j + 4 := ⟨n - 4, by omega⟩
    obtain ⟨r1, p1, e1, h1, a1, b1⟩ := draw (n := j + 2) (many := 9) O h (by omega) (by omega)
    obtain ⟨v, p2, m, e2, h2, q⟩ := leaf 0 (j + 4) k pen (by omega) h (by omega) r1 p1 e1 h1 (.inl rfl)
    exact ⟨v, p2, 0, 0, m, e2, h2.mono (by omega), q, by omega⟩
  | succ deep ih =>
    intro n k pen hn hd h hk
    obtain ⟨j, rfl⟩ : ∃ j, n = j + 4 := ⟨n - 4, by omega⟩
    have pw : (2 : Nat) ^ deep ≤ 2 ^ 8 := Nat.pow_le_pow_right (by omega) (by omega)
    have pw3 : (1 : Nat) ≤ 2 ^ deep := Nat.one_le_two_pow
    have pi : ((2 : Int) ^ (deep + 1)) = 2 * 2 ^ deep := by rw [Int.pow_succ]; omega
    have pj : ((2 : Int) ^ deep) = ((2 ^ deep : Nat) : Int) := by simp
    obtain ⟨r1, p1, e1, h1, a1, b1⟩ := draw (n := j + 2) (many := 9) O h (by omega) (by omega)
    have b1 := b1 (by omega)
    have c0 : ¬ ((deep : Int) + 1 = 0) := by omega
    have c2 : (deep : Int) + 1 - 1 = deep := by omega
    by_cases hw : r1 < 2
    · obtain ⟨v, p2, m, e2, h2, q⟩ := leaf (deep + 1) (j + 4) k pen (by omega) h (by omega) r1 p1 e1 h1 (.inr hw)
      exact ⟨v, p2, 0, 0, m, e2, h2.mono (by omega), q, by omega⟩
    obtain ⟨v, p2, s, d, m, e2, h2, q, hq⟩ := ih (j + 3) (k + 1) p1 (by omega) (by omega) h1 (by omega)
    have o1 := q.own
    by_cases hw2 : r1 = 2
    · subst hw2
      obtain ⟨r3, p3, e3, h3, a3, b3⟩ := draw (n := j + 2) (many := 10) O h2 (by omega) (by omega)
      have b3 := b3 (by omega)
      refine ⟨_, p3, _, _, _, ?_, h3.mono (by omega), .times q a3 (by omega), by omega⟩
      rw [cf11]
      unfold bd11
      simp [sSeq, sIf, sRetX, sSetX, sPut, sDrop, sRetO_eq, sRetN, sPass, sNil, mBin, mVal, mOwnIx, mOwnIxA, mOwn, mC, mTB, mAnd, mOr, mNot, mCB, mCons, mNil, mTup, mIf, mFree, mCall, mCallO, mIsi, mTru, mUn, mAndV, mOrV, mNotV, mSl, mPart, mNoPart, mCW, mMth, mPop, mOwnL, mStrip, getV_eq, getO_eq, ownL, asB, asI, optO, fin1, fnD, settleX_nil, settleX_cons, settles_nil, settle_nil, settle1_nil, settle_cons, settle1_cons, settles_cons, frz, free, frees, free1, ltD, gtD, leD, geD, ordD, intOf, absD, lenD, lenA, listW, ixD, ixA, L2.atI, L2.ixN, addD, subD, modD, fdvD, powD, Dl.intD, negD, strip_eq, isOwn_eq, truthD, isiD, tyOf, isAny, kt0, kb_NoneType_bool, kb_NoneType_int, kb_NoneType_str, kb_NoneType_tuple, kb_NoneType_list, kb_NoneType_dict, kb_NoneType_float, kb_NoneType_set, kb_bool_bool, kb_bool_int, kb_bool_str, kb_bool_tuple, kb_bool_list, kb_bool_dict, kb_bool_float, kb_bool_set, kb_int_bool, kb_int_int, kb_int_str, kb_int_tuple, kb_int_list, kb_int_dict, kb_int_float, kb_int_set, kb_str_bool, kb_str_int, kb_str_str, kb_str_tuple, kb_str_list, kb_str_dict, kb_str_float, kb_str_set, kb_tuple_bool, kb_tuple_int, kb_tuple_str, kb_tuple_tuple, kb_tuple_list, kb_tuple_dict, kb_tuple_float, kb_tuple_set, kb_list_bool, kb_list_int, kb_list_str, kb_list_tuple, kb_list_list, kb_list_dict, kb_list_float, kb_list_set, kb_dict_bool, kb_dict_int, kb_dict_str, kb_dict_tuple, kb_dict_list, kb_dict_dict, kb_dict_float, kb_dict_set, PySem.sizeLine_eq, inS, notInS, inA, notInA, noDct, isInD, notInD, inB, flatD, eqF, eqD, neD, eqB, scalEq, isD, isNotD, isB, ofString_beq, ofString_inj, mChain, mAndV, mOrV, mNotV, mApp, kgI, e1, e2, e3, o1, c0, c2]
    by_cases hw3 : r1 = 3 ∧ cols ≠ []
    · obtain ⟨rfl, hcne⟩ := hw3
      have ne : neD (.lst (strsD cols)) (.lst []) = some (.bl true) := by
        rw [ne_strs okc]
        cases cols with
        | nil => exact (hcne rfl).elim
        | cons x l => rfl
      obtain ⟨x0, p0, m0, e0, h0⟩ := pick (n := j + 1) (l := [.str "where", .str "unless"]) O h2 (by omega) (by simp) (by simp) (by simp)
      obtain ⟨w, rfl, hw'⟩ : ∃ w : S, x0 = .str w ∧ w ∈ (["where", "unless"] : List S) := by
        simp only [List.mem_cons, List.not_mem_nil, or_false] at m0
        rcases m0 with rfl | rfl
        · exact ⟨_, rfl, by simp⟩
        · exact ⟨_, rfl, by simp⟩
      have td : ∃ dd : Nat, dd ≤ 1 ∧ dd ≤ deep ∧ minD [.int 1, .int deep] = some (.int dd) := by
        unfold minD
        by_cases z : (deep : Int) < 1
        · exact ⟨deep, by omega, by omega, by simp [z]⟩
        · exact ⟨1, by omega, by omega, by simp [z]⟩
      obtain ⟨dd, d1, d2, e4⟩ := td
      have pdd : (2 : Nat) ^ dd ≤ 2 ^ 1 := Nat.pow_le_pow_right (by omega) d1
      have pdi : ((2 : Int) ^ dd) = ((2 ^ dd : Nat) : Int) := by simp
      obtain ⟨v', p3, s', d', m', e3, h3, q', hq'⟩ := test (cols := cols) O hcne hc2 dd (j + 3) _ p0 (by omega) (by omega) h0 (by omega)
      have o2 := q'.own
      refine ⟨_, p3, _, _, _, ?_, h3.mono (by omega), .wher hw' q q', by omega⟩
      rw [cf11]
      unfold bd11
      simp [sSeq, sIf, sRetX, sSetX, sPut, sDrop, sRetO_eq, sRetN, sPass, sNil, mBin, mVal, mOwnIx, mOwnIxA, mOwn, mC, mTB, mAnd, mOr, mNot, mCB, mCons, mNil, mTup, mIf, mFree, mCall, mCallO, mIsi, mTru, mUn, mAndV, mOrV, mNotV, mSl, mPart, mNoPart, mCW, mMth, mPop, mOwnL, mStrip, getV_eq, getO_eq, ownL, asB, asI, optO, fin1, fnD, settleX_nil, settleX_cons, settles_nil, settle_nil, settle1_nil, settle_cons, settle1_cons, settles_cons, frz, free, frees, free1, ltD, gtD, leD, geD, ordD, intOf, absD, lenD, lenA, listW, ixD, ixA, L2.atI, L2.ixN, addD, subD, modD, fdvD, powD, Dl.intD, negD, strip_eq, isOwn_eq, truthD, isiD, tyOf, isAny, kt0, kb_NoneType_bool, kb_NoneType_int, kb_NoneType_str, kb_NoneType_tuple, kb_NoneType_list, kb_NoneType_dict, kb_NoneType_float, kb_NoneType_set, kb_bool_bool, kb_bool_int, kb_bool_str, kb_bool_tuple, kb_bool_list, kb_bool_dict, kb_bool_float, kb_bool_set, kb_int_bool, kb_int_int, kb_int_str, kb_int_tuple, kb_int_list, kb_int_dict, kb_int_float, kb_int_set, kb_str_bool, kb_str_int, kb_str_str, kb_str_tuple, kb_str_list, kb_str_dict, kb_str_float, kb_str_set, kb_tuple_bool, kb_tuple_int, kb_tuple_str, kb_tuple_tuple, kb_tuple_list, kb_tuple_dict, kb_tuple_float, kb_tuple_set, kb_list_bool, kb_list_int, kb_list_str, kb_list_tuple, kb_list_list, kb_list_dict, kb_list_float, kb_list_set, kb_dict_bool, kb_dict_int, kb_dict_str, kb_dict_tuple, kb_dict_list, kb_dict_dict, kb_dict_float, kb_dict_set, e0, e1, e2, e3, e4, o1, o2, c0, c2, ne, eqD, eqB, scalEq, PySem.sizeLine_eq]
    · obtain ⟨x0, p0, m0, e0, h0⟩ := pick (n := j + 1) (l := [.str "plus", .str "both", .str "either", .str "rest", .str "both"]) O h2 (by omega) (by simp) (by simp) (by simp)
      obtain ⟨w, rfl, hw'⟩ : ∃ w : S, x0 = .str w ∧ w ∈ (["plus", "both", "either", "rest"] : List S) := by
        simp only [List.mem_cons, List.not_mem_nil, or_false] at m0
        rcases m0 with rfl | rfl | rfl | rfl | rfl
        · exact ⟨_, rfl, by simp⟩
        · exact ⟨_, rfl, by simp⟩
        · exact ⟨_, rfl, by simp⟩
        · exact ⟨_, rfl, by simp⟩
        · exact ⟨_, rfl, by simp⟩
      obtain ⟨v', p3, s', d', m', e3, h3, q', hq'⟩ := ih (j + 3) _ p0 (by omega) (by omega) h0 (by omega)
      have o2 := q'.own
      refine ⟨_, p3, _, _, _, ?_, h3.mono (by omega), .pair hw' q q', by omega⟩
      rw [cf11]
      unfold bd11
      have ne := ne_strs okc
      by_cases h3' : r1 = 3
      · have hc' : cols = [] := Decidable.byContradiction fun z => hw3 ⟨h3', z⟩
        subst h3' hc'
        have ne : neD (.lst (strsD [])) (.lst []) = some (.bl false) := ne
        simp [sSeq, sIf, sRetX, sSetX, sPut, sDrop, sRetO_eq, sRetN, sPass, sNil, mBin, mVal, mOwnIx, mOwnIxA, mOwn, mC, mTB, mAnd, mOr, mNot, mCB, mCons, mNil, mTup, mIf, mFree, mCall, mCallO, mIsi, mTru, mUn, mAndV, mOrV, mNotV, mSl, mPart, mNoPart, mCW, mMth, mPop, mOwnL, mStrip, getV_eq, getO_eq, ownL, asB, asI, optO, fin1, fnD, settleX_nil, settleX_cons, settles_nil, settle_nil, settle1_nil, settle_cons, settle1_cons, settles_cons, frz, free, frees, free1, ltD, gtD, leD, geD, ordD, intOf, absD, lenD, lenA, listW, ixD, ixA, L2.atI, L2.ixN, addD, subD, modD, fdvD, powD, Dl.intD, negD, strip_eq, isOwn_eq, truthD, isiD, tyOf, isAny, kt0, kb_NoneType_bool, kb_NoneType_int, kb_NoneType_str, kb_NoneType_tuple, kb_NoneType_list, kb_NoneType_dict, kb_NoneType_float, kb_NoneType_set, kb_bool_bool, kb_bool_int, kb_bool_str, kb_bool_tuple, kb_bool_list, kb_bool_dict, kb_bool_float, kb_bool_set, kb_int_bool, kb_int_int, kb_int_str, kb_int_tuple, kb_int_list, kb_int_dict, kb_int_float, kb_int_set, kb_str_bool, kb_str_int, kb_str_str, kb_str_tuple, kb_str_list, kb_str_dict, kb_str_float, kb_str_set, kb_tuple_bool, kb_tuple_int, kb_tuple_str, kb_tuple_tuple, kb_tuple_list, kb_tuple_dict, kb_tuple_float, kb_tuple_set, kb_list_bool, kb_list_int, kb_list_str, kb_list_tuple, kb_list_list, kb_list_dict, kb_list_float, kb_list_set, kb_dict_bool, kb_dict_int, kb_dict_str, kb_dict_tuple, kb_dict_list, kb_dict_dict, kb_dict_float, kb_dict_set, e0, e1, e2, e3, o1, o2, c0, c2, ne, eqD, eqB, scalEq, PySem.sizeLine_eq]
      · simp [sSeq, sIf, sRetX, sSetX, sPut, sDrop, sRetO_eq, sRetN, sPass, sNil, mBin, mVal, mOwnIx, mOwnIxA, mOwn, mC, mTB, mAnd, mOr, mNot, mCB, mCons, mNil, mTup, mIf, mFree, mCall, mCallO, mIsi, mTru, mUn, mAndV, mOrV, mNotV, mSl, mPart, mNoPart, mCW, mMth, mPop, mOwnL, mStrip, getV_eq, getO_eq, ownL, asB, asI, optO, fin1, fnD, settleX_nil, settleX_cons, settles_nil, settle_nil, settle1_nil, settle_cons, settle1_cons, settles_cons, frz, free, frees, free1, ltD, gtD, leD, geD, ordD, intOf, absD, lenD, lenA, listW, ixD, ixA, L2.atI, L2.ixN, addD, subD, modD, fdvD, powD, Dl.intD, negD, strip_eq, isOwn_eq, truthD, isiD, tyOf, isAny, kt0, kb_NoneType_bool, kb_NoneType_int, kb_NoneType_str, kb_NoneType_tuple, kb_NoneType_list, kb_NoneType_dict, kb_NoneType_float, kb_NoneType_set, kb_bool_bool, kb_bool_int, kb_bool_str, kb_bool_tuple, kb_bool_list, kb_bool_dict, kb_bool_float, kb_bool_set, kb_int_bool, kb_int_int, kb_int_str, kb_int_tuple, kb_int_list, kb_int_dict, kb_int_float, kb_int_set, kb_str_bool, kb_str_int, kb_str_str, kb_str_tuple, kb_str_list, kb_str_dict, kb_str_float, kb_str_set, kb_tuple_bool, kb_tuple_int, kb_tuple_str, kb_tuple_tuple, kb_tuple_list, kb_tuple_dict, kb_tuple_float, kb_tuple_set, kb_list_bool, kb_list_int, kb_list_str, kb_list_tuple, kb_list_list, kb_list_dict, kb_list_float, kb_list_set, kb_dict_bool, kb_dict_int, kb_dict_str, kb_dict_tuple, kb_dict_list, kb_dict_dict, kb_dict_float, kb_dict_set, e0, e1, e2, e3, o1, o2, hw, hw2, h3', c0, c2, eqD, eqB, scalEq, PySem.sizeLine_eq]
end Lw
set_option maxHeartbeats 0
namespace Lw
open Dl
def RowOk (cols : List S) (row : D) : Prop := ∃ l, row = .dct l ∧ ∀ c ∈ cols, valK l (.inr c) = some .non ∨ ∃ i : Int, valK l (.inr c) = some (.int i)
def CntOk (names : List S) (nums : D) : Prop := ∃ l, nums = .dct l ∧ ∀ c ∈ names, ∃ i : Int, valK l (.inr c) = some (.int i) ∧ 0 ≤ i ∧ i.natAbs < 2 ^ 67
end Lw
set_option maxHeartbeats 0
/-! L04z: k04, truths: not, and, or. -/
namespace Lw
open Dl
def tvD : Option Bool → D
  | none => .non
  | some b => .bl b
theorem truth_not {b : Option Bool} {t row : D} {j : Nat} (o : isOwnD t = false) (ro : isOwnD row = false) (e1 : callF (j + 1) 0 [t, row] = .ret (tvD b) []) (e2 : callF (j + 1) 13 [t, row] = .ret (tvD b) []) :
    callF (j + 2) 0 [.tup [.str "not", t], row] = .ret (tvD (b.map (!·))) [] ∧ callF (j + 2) 13 [.tup [.str "not", t], row] = .ret (tvD (b.map (!·))) [] := by
  have p : callF (j + 1) 1 [.str "not", .lst [tvD b]] = .ret (tvD (b.map (!·))) [] := by
    rcases b with _ | _ | _ <;> kernel_rfl
  have p2 : getB [(some true, .bl false), (some false, .bl true)] (tvD b) = some (tvD (b.map (!·))) := by
    rcases b with _ | _ | _ <;> rfl
  have ob : isOwnD (tvD b) = false := by rcases b with _ | _ | _ <;> rfl
  have ob2 : isOwnD (tvD (b.map (!·))) = false := by rcases b with _ | _ | _ <;> rfl
  generalize tvD (b.map (!·)) = z at *
  generalize tvD b = y at *
  constructor
  · rw [cf0]; unfold bd0
    simp [sSeq, sIf, sRetX, sSetX, sPut, sDrop, sRetO_eq, sRetN, sPass, sNil, mBin, mVal, mOwnIx, mOwnIxA, mOwn, mC, mTB, mAnd, mOr, mNot, mCB, mCons, mNil, mTup, mIf, mFree, mCall, mCallO, mIsi, mTru, mUn, mAndV, mOrV, mNotV, mSl, mPart, mNoPart, mCW, mMth, mPop, mOwnL, mStrip, getV_eq, getO_eq, ownL, asB, asI, optO, fin1, fnD, settleX_nil, settleX_cons, settles_nil, settle_nil, settle1_nil, settle_cons, settle1_cons, settles_cons, frz, free, frees, free1, ltD, gtD, leD, geD, ordD, intOf, absD, lenD, lenA, listW, ixD, ixA, L2.atI, L2.ixN, addD, subD, modD, fdvD, powD, Dl.intD, negD, strip_eq, isOwn_eq, truthD, isiD, tyOf, isAny, kt0, kb_NoneType_bool, kb_NoneType_int, kb_NoneType_str, kb_NoneType_tuple, kb_NoneType_list, kb_NoneType_dict, kb_NoneType_float, kb_NoneType_set, kb_bool_bool, kb_bool_int, kb_bool_str, kb_bool_tuple, kb_bool_list, kb_bool_dict, kb_bool_float, kb_bool_set, kb_int_bool, kb_int_int, kb_int_str, kb_int_tuple, kb_int_list, kb_int_dict, kb_int_float, kb_int_set, kb_str_bool, kb_str_int, kb_str_str, kb_str_tuple, kb_str_list, kb_str_dict, kb_str_float, kb_str_set, kb_tuple_bool, kb_tuple_int, kb_tuple_str, kb_tuple_tuple, kb_tuple_list, kb_tuple_dict, kb_tuple_float, kb_tuple_set, kb_list_bool, kb_list_int, kb_list_str, kb_list_tuple, kb_list_list, kb_list_dict, kb_list_float, kb_list_set, kb_dict_bool, kb_dict_int, kb_dict_str, kb_dict_tuple, kb_dict_list, kb_dict_dict, kb_dict_float, kb_dict_set, PySem.sizeLine_eq, inS, notInS, inA, notInA, noDct, isInD, notInD, inB, flatD, eqF, eqD, neD, eqB, scalEq, isD, isNotD, isB, ofString_beq, ofString_inj, mChain, mAndV, mOrV, mNotV, mApp, kgI, mLcX, mLcC, mIter, anyOf, noOwn, loopC, wipeG, backG, aName, mYes, frz1, tupleD, mRange1, rangeD1, small62, rangeI_len, slD, cutD, HT.sIx, e1, p, o, ro, ob, ob2]
  · rw [cf13]; unfold bd13
    simp [sSeq, sIf, sRetX, sSetX, sPut, sDrop, sRetO_eq, sRetN, sPass, sNil, mBin, mVal, mOwnIx, mOwnIxA, mOwn, mC, mTB, mAnd, mOr, mNot, mCB, mCons, mNil, mTup, mIf, mFree, mCall, mCallO, mIsi, mTru, mUn, mAndV, mOrV, mNotV, mSl, mPart, mNoPart, mCW, mMth, mPop, mOwnL, mStrip, getV_eq, getO_eq, ownL, asB, asI, optO, fin1, fnD, settleX_nil, settleX_cons, settles_nil, settle_nil, settle1_nil, settle_cons, settle1_cons, settles_cons, frz, free, frees, free1, ltD, gtD, leD, geD, ordD, intOf, absD, lenD, lenA, listW, ixD, ixA, L2.atI, L2.ixN, addD, subD, modD, fdvD, powD, Dl.intD, negD, strip_eq, isOwn_eq, truthD, isiD, tyOf, isAny, kt0, kb_NoneType_bool, kb_NoneType_int, kb_NoneType_str, kb_NoneType_tuple, kb_NoneType_list, kb_NoneType_dict, kb_NoneType_float, kb_NoneType_set, kb_bool_bool, kb_bool_int, kb_bool_str, kb_bool_tuple, kb_bool_list, kb_bool_dict, kb_bool_float, kb_bool_set, kb_int_bool, kb_int_int, kb_int_str, kb_int_tuple, kb_int_list, kb_int_dict, kb_int_float, kb_int_set, kb_str_bool, kb_str_int, kb_str_str, kb_str_tuple, kb_str_list, kb_str_dict, kb_str_float, kb_str_set, kb_tuple_bool, kb_tuple_int, kb_tuple_str, kb_tuple_tuple, kb_tuple_list, kb_tuple_dict, kb_tuple_float, kb_tuple_set, kb_list_bool, kb_list_int, kb_list_str, kb_list_tuple, kb_list_list, kb_list_dict, kb_list_float, kb_list_set, kb_dict_bool, kb_dict_int, kb_dict_str, kb_dict_tuple, kb_dict_list, kb_dict_dict, kb_dict_float, kb_dict_set, PySem.sizeLine_eq, inS, notInS, inA, notInA, noDct, isInD, notInD, inB, flatD, eqF, eqD, neD, eqB, scalEq, isD, isNotD, isB, ofString_beq, ofString_inj, mChain, mAndV, mOrV, mNotV, mApp, kgI, mLcX, mLcC, mIter, anyOf, noOwn, loopC, wipeG, backG, aName, mYes, frz1, tupleD, mRange1, rangeD1, small62, rangeI_len, slD, cutD, HT.sIx, e2, p2, o, ro, ob, ob2, mGetB]
theorem truth_bin {b1 b2 : Option Bool} {w : S} {a c row : D} (hw : w ∈ (["and", "or"] : List S)) (oa : isOwnD a = false) (oc : isOwnD c = false) (ro : isOwnD row = false) : ∃ b, ∀ j, callF (j + 1) 0 [a, row] = .ret (tvD b1) [] → callF (j + 1) 13 [a, row] = .ret (tvD b1) [] → callF (j + 1) 0 [c, row] = .ret (tvD b2) [] → callF (j + 1) 13 [c, row] = .ret (tvD b2) [] →
    callF (j + 2) 0 [.tup [.str w, a, c], row] = .ret (tvD b) [] ∧ callF (j + 2) 13 [.tup [.str w, a, c], row] = .ret (tvD b) [] := by
  have ob1 : isOwnD (tvD b1) = false := by rcases b1 with _ | _ | _ <;> rfl
  have ob2 : isOwnD (tvD b2) = false := by rcases b2 with _ | _ | _ <;> rfl
  obtain ⟨b, p, r1, r2, hr1, hr2, hz⟩ : ∃ b, (∀ j, callF (j + 1) 1 [.str w, .lst [tvD b1, tvD b2]] = .ret (tvD b) []) ∧ ∃ r1 r2 : Int, pickB [(some false, .int 0), (none, .int 1), (some true, .int 2)] (tvD b1) = some (.int r1) ∧ pickB [(some false, .int 0), (none, .int 1), (some true, .int 2)] (tvD b2) = some (.int r2) ∧
      ∃ r : Int, (if w = "and" then minD [.lst [.int r1, .int r2]] else maxD [.lst [.int r1, .int r2]]) = some (.int r) ∧ ixA (.lst [.bl false, .non, .bl true]) (.int r) = some (tvD b) := by
    simp only [List.mem_cons, List.not_mem_nil, or_false] at hw
    rcases hw with rfl | rfl <;> rcases b1 with _ | _ | _ <;> rcases b2 with _ | _ | _
    all_goals first
      | exact ⟨none, fun j => by kernel_rfl, _, _, rfl, rfl, _, rfl, rfl⟩
      | exact ⟨some true, fun j => by kernel_rfl, _, _, rfl, rfl, _, rfl, rfl⟩
      | exact ⟨some false, fun j => by kernel_rfl, _, _, rfl, rfl, _, rfl, rfl⟩
  obtain ⟨r, hr, hx⟩ := hz
  have ob : isOwnD (tvD b) = false := by rcases b with _ | _ | _ <;> rfl
  have fb : free (tvD b) = true := by rcases b with _ | _ | _ <;> rfl
  refine ⟨b, fun j e1 e2 e3 e4 => ?_⟩
  have p := p j
  generalize tvD b = z at *
  generalize tvD b1 = y1 at *
  generalize tvD b2 = y2 at *
  simp only [List.mem_cons, List.not_mem_nil, or_false] at hw
  constructor
  · rw [cf0]; unfold bd0
    rcases hw with rfl | rfl <;> simp [sSeq, sIf, sRetX, sSetX, sPut, sDrop, sRetO_eq, sRetN, sPass, sNil, mBin, mVal, mOwnIx, mOwnIxA, mOwn, mC, mTB, mAnd, mOr, mNot, mCB, mCons, mNil, mTup, mIf, mFree, mCall, mCallO, mIsi, mTru, mUn, mAndV, mOrV, mNotV, mSl, mPart, mNoPart, mCW, mMth, mPop, mOwnL, mStrip, getV_eq, getO_eq, ownL, asB, asI, optO, fin1, fnD, settleX_nil, settleX_cons, settles_nil, settle_nil, settle1_nil, settle_cons, settle1_cons, settles_cons, frz, free, frees, free1, ltD, gtD, leD, geD, ordD, intOf, absD, lenD, lenA, listW, ixD, ixA, L2.atI, L2.ixN, addD, subD, modD, fdvD, powD, Dl.intD, negD, strip_eq, isOwn_eq, truthD, isiD, tyOf, isAny, kt0, kb_NoneType_bool, kb_NoneType_int, kb_NoneType_str, kb_NoneType_tuple, kb_NoneType_list, kb_NoneType_dict, kb_NoneType_float, kb_NoneType_set, kb_bool_bool, kb_bool_int, kb_bool_str, kb_bool_tuple, kb_bool_list, kb_bool_dict, kb_bool_float, kb_bool_set, kb_int_bool, kb_int_int, kb_int_str, kb_int_tuple, kb_int_list, kb_int_dict, kb_int_float, kb_int_set, kb_str_bool, kb_str_int, kb_str_str, kb_str_tuple, kb_str_list, kb_str_dict, kb_str_float, kb_str_set, kb_tuple_bool, kb_tuple_int, kb_tuple_str, kb_tuple_tuple, kb_tuple_list, kb_tuple_dict, kb_tuple_float, kb_tuple_set, kb_list_bool, kb_list_int, kb_list_str, kb_list_tuple, kb_list_list, kb_list_dict, kb_list_float, kb_list_set, kb_dict_bool, kb_dict_int, kb_dict_str, kb_dict_tuple, kb_dict_list, kb_dict_dict, kb_dict_float, kb_dict_set, PySem.sizeLine_eq, inS, notInS, inA, notInA, noDct, isInD, notInD, inB, flatD, eqF, eqD, neD, eqB, scalEq, isD, isNotD, isB, ofString_beq, ofString_inj, mChain, mAndV, mOrV, mNotV, mApp, kgI, mLcX, mLcC, mIter, anyOf, noOwn, loopC, wipeG, backG, aName, mYes, frz1, tupleD, mRange1, rangeD1, small62, rangeI_len, slD, cutD, HT.sIx, e1, e3, p, oa, oc, ro, ob, ob1, ob2]
  · rw [cf13]; unfold bd13
    simp [ixA, ixD, L2.atI, L2.ixN] at hx
    rcases hw with rfl | rfl <;> simp [ofString_inj] at hr <;> simp [sSeq, sIf, sRetX, sSetX, sPut, sDrop, sRetO_eq, sRetN, sPass, sNil, mBin, mVal, mOwnIx, mOwnIxA, mOwn, mC, mTB, mAnd, mOr, mNot, mCB, mCons, mNil, mTup, mIf, mFree, mCall, mCallO, mIsi, mTru, mUn, mAndV, mOrV, mNotV, mSl, mPart, mNoPart, mCW, mMth, mPop, mOwnL, mStrip, getV_eq, getO_eq, ownL, asB, asI, optO, fin1, fnD, settleX_nil, settleX_cons, settles_nil, settle_nil, settle1_nil, settle_cons, settle1_cons, settles_cons, frz, free, frees, free1, ltD, gtD, leD, geD, ordD, intOf, absD, lenD, lenA, listW, ixD, ixA, L2.atI, L2.ixN, addD, subD, modD, fdvD, powD, Dl.intD, negD, strip_eq, isOwn_eq, truthD, isiD, tyOf, isAny, kt0, kb_NoneType_bool, kb_NoneType_int, kb_NoneType_str, kb_NoneType_tuple, kb_NoneType_list, kb_NoneType_dict, kb_NoneType_float, kb_NoneType_set, kb_bool_bool, kb_bool_int, kb_bool_str, kb_bool_tuple, kb_bool_list, kb_bool_dict, kb_bool_float, kb_bool_set, kb_int_bool, kb_int_int, kb_int_str, kb_int_tuple, kb_int_list, kb_int_dict, kb_int_float, kb_int_set, kb_str_bool, kb_str_int, kb_str_str, kb_str_tuple, kb_str_list, kb_str_dict, kb_str_float, kb_str_set, kb_tuple_bool, kb_tuple_int, kb_tuple_str, kb_tuple_tuple, kb_tuple_list, kb_tuple_dict, kb_tuple_float, kb_tuple_set, kb_list_bool, kb_list_int, kb_list_str, kb_list_tuple, kb_list_list, kb_list_dict, kb_list_float, kb_list_set, kb_dict_bool, kb_dict_int, kb_dict_str, kb_dict_tuple, kb_dict_list, kb_dict_dict, kb_dict_float, kb_dict_set, PySem.sizeLine_eq, inS, notInS, inA, notInA, noDct, isInD, notInD, inB, flatD, eqF, eqD, neD, eqB, scalEq, isD, isNotD, isB, ofString_beq, ofString_inj, mChain, mAndV, mOrV, mNotV, mApp, kgI, mLcX, mLcC, mIter, anyOf, noOwn, loopC, wipeG, backG, aName, mYes, frz1, tupleD, mRange1, rangeD1, small62, rangeI_len, slD, cutD, HT.sIx, e2, e4, oa, oc, ro, ob, ob1, ob2, mPickB, hr1, hr2, hr, hx, fb, ob]
end Lw
set_option maxHeartbeats 0
/-! L04a: k04, truths. -/
namespace Lw
open Dl
variable {cols names : List S}
theorem truth_eq {row : D} (r : RowOk cols row) {t : D} {s d m : Nat} (q : TT cols t s d m) : ∃ b, ∀ n, d + 3 ≤ n → callF n 0 [t, row] = .ret (tvD b) [] ∧ callF n 13 [t, row] = .ret (tvD b) [] := by
  obtain ⟨l, rfl, hr⟩ := r
  induction q with
  | @cmp w c k hw hc h1 h2 =>
    rcases hr c hc with e | ⟨i, e⟩
    · refine ⟨none, fun n hn => ?_⟩
      obtain ⟨j, rfl⟩ : ∃ j, n = j + 1 := ⟨n - 1, by omega⟩
      simp only [List.mem_cons, List.not_mem_nil, or_false] at hw
      rcases hw with rfl | rfl | rfl
      all_goals
        constructor
        · rw [cf0]; unfold bd0; simp [sSeq, sIf, sRetX, sSetX, sPut, sDrop, sRetO_eq, sRetN, sPass, sNil, mBin, mVal, mOwnIx, mOwnIxA, mOwn, mC, mTB, mAnd, mOr, mNot, mCB, mCons, mNil, mTup, mIf, mFree, mCall, mCallO, mIsi, mTru, mUn, mAndV, mOrV, mNotV, mSl, mPart, mNoPart, mCW, mMth, mPop, mOwnL, mStrip, getV_eq, getO_eq, ownL, asB, asI, optO, fin1, fnD, settleX_nil, settleX_cons, settles_nil, settle_nil, settle1_nil, settle_cons, settle1_cons, settles_cons, frz, free, frees, free1, ltD, gtD, leD, geD, ordD, intOf, absD, lenD, lenA, listW, ixD, ixA, L2.atI, L2.ixN, addD, subD, modD, fdvD, powD, Dl.intD, negD, strip_eq, isOwn_eq, truthD, isiD, tyOf, isAny, kt0, kb_NoneType_bool, kb_NoneType_int, kb_NoneType_str, kb_NoneType_tuple, kb_NoneType_list, kb_NoneType_dict, kb_NoneType_float, kb_NoneType_set, kb_bool_bool, kb_bool_int, kb_bool_str, kb_bool_tuple, kb_bool_list, kb_bool_dict, kb_bool_float, kb_bool_set, kb_int_bool, kb_int_int, kb_int_str, kb_int_tuple, kb_int_list, kb_int_dict, kb_int_float, kb_int_set, kb_str_bool, kb_str_int, kb_str_str, kb_str_tuple, kb_str_list, kb_str_dict, kb_str_float, kb_str_set, kb_tuple_bool, kb_tuple_int, kb_tuple_str, kb_tuple_tuple, kb_tuple_list, kb_tuple_dict, kb_tuple_float, kb_tuple_set, kb_list_bool, kb_list_int, kb_list_str, kb_list_tuple, kb_list_list, kb_list_dict, kb_list_float, kb_list_set, kb_dict_bool, kb_dict_int, kb_dict_str, kb_dict_tuple, kb_dict_list, kb_dict_dict, kb_dict_float, kb_dict_set, PySem.sizeLine_eq, inS, notInS, inA, notInA, noDct, isInD, notInD, inB, flatD, eqF, eqD, neD, eqB, scalEq, isD, isNotD, isB, ofString_beq, ofString_inj, mChain, mAndV, mOrV, mNotV, mApp, kgI, keyD, e, tvD]
        · rw [cf13]; unfold bd13; simp [sSeq, sIf, sRetX, sSetX, sPut, sDrop, sRetO_eq, sRetN, sPass, sNil, mBin, mVal, mOwnIx, mOwnIxA, mOwn, mC, mTB, mAnd, mOr, mNot, mCB, mCons, mNil, mTup, mIf, mFree, mCall, mCallO, mIsi, mTru, mUn, mAndV, mOrV, mNotV, mSl, mPart, mNoPart, mCW, mMth, mPop, mOwnL, mStrip, getV_eq, getO_eq, ownL, asB, asI, optO, fin1, fnD, settleX_nil, settleX_cons, settles_nil, settle_nil, settle1_nil, settle_cons, settle1_cons, settles_cons, frz, free, frees, free1, ltD, gtD, leD, geD, ordD, intOf, absD, lenD, lenA, listW, ixD, ixA, L2.atI, L2.ixN, addD, subD, modD, fdvD, powD, Dl.intD, negD, strip_eq, isOwn_eq, truthD, isiD, tyOf, isAny, kt0, kb_NoneType_bool, kb_NoneType_int, kb_NoneType_str, kb_NoneType_tuple, kb_NoneType_list, kb_NoneType_dict, kb_NoneType_float, kb_NoneType_set, kb_bool_bool, kb_bool_int, kb_bool_str, kb_bool_tuple, kb_bool_list, kb_bool_dict, kb_bool_float, kb_bool_set, kb_int_bool, kb_int_int, kb_int_str, kb_int_tuple, kb_int_list, kb_int_dict, kb_int_float, kb_int_set, kb_str_bool, kb_str_int, kb_str_str, kb_str_tuple, kb_str_list, kb_str_dict, kb_str_float, kb_str_set, kb_tuple_bool, kb_tuple_int, kb_tuple_str, kb_tuple_tuple, kb_tuple_list, kb_tuple_dict, kb_tuple_float, kb_tuple_set, kb_list_bool, kb_list_int, kb_list_str, kb_list_tuple, kb_list_list, kb_list_dict, kb_list_float, kb_list_set, kb_dict_bool, kb_dict_int, kb_dict_str, kb_dict_tuple, kb_dict_list, kb_dict_dict, kb_dict_float, kb_dict_set, PySem.sizeLine_eq, inS, notInS, inA, notInA, noDct, isInD, notInD, inB, flatD, eqF, eqD, neD, eqB, scalEq, isD, isNotD, isB, ofString_beq, ofString_inj, mChain, mAndV, mOrV, mNotV, mApp, kgI, keyD, e, tvD]
    · simp only [List.mem_cons, List.not_mem_nil, or_false] at hw
      rcases hw with rfl | rfl | rfl
      · refine ⟨some (decide (i < k)), fun n hn => ?_⟩
        obtain ⟨j, rfl⟩ : ∃ j, n = j + 1 := ⟨n - 1, by omega⟩
        constructor
        · rw [cf0]; unfold bd0; simp [sSeq, sIf, sRetX, sSetX, sPut, sDrop, sRetO_eq, sRetN, sPass, sNil, mBin, mVal, mOwnIx, mOwnIxA, mOwn, mC, mTB, mAnd, mOr, mNot, mCB, mCons, mNil, mTup, mIf, mFree, mCall, mCallO, mIsi, mTru, mUn, mAndV, mOrV, mNotV, mSl, mPart, mNoPart, mCW, mMth, mPop, mOwnL, mStrip, getV_eq, getO_eq, ownL, asB, asI, optO, fin1, fnD, settleX_nil, settleX_cons, settles_nil, settle_nil, settle1_nil, settle_cons, settle1_cons, settles_cons, frz, free, frees, free1, ltD, gtD, leD, geD, ordD, intOf, absD, lenD, lenA, listW, ixD, ixA, L2.atI, L2.ixN, addD, subD, modD, fdvD, powD, Dl.intD, negD, strip_eq, isOwn_eq, truthD, isiD, tyOf, isAny, kt0, kb_NoneType_bool, kb_NoneType_int, kb_NoneType_str, kb_NoneType_tuple, kb_NoneType_list, kb_NoneType_dict, kb_NoneType_float, kb_NoneType_set, kb_bool_bool, kb_bool_int, kb_bool_str, kb_bool_tuple, kb_bool_list, kb_bool_dict, kb_bool_float, kb_bool_set, kb_int_bool, kb_int_int, kb_int_str, kb_int_tuple, kb_int_list, kb_int_dict, kb_int_float, kb_int_set, kb_str_bool, kb_str_int, kb_str_str, kb_str_tuple, kb_str_list, kb_str_dict, kb_str_float, kb_str_set, kb_tuple_bool, kb_tuple_int, kb_tuple_str, kb_tuple_tuple, kb_tuple_list, kb_tuple_dict, kb_tuple_float, kb_tuple_set, kb_list_bool, kb_list_int, kb_list_str, kb_list_tuple, kb_list_list, kb_list_dict, kb_list_float, kb_list_set, kb_dict_bool, kb_dict_int, kb_dict_str, kb_dict_tuple, kb_dict_list, kb_dict_dict, kb_dict_float, kb_dict_set, PySem.sizeLine_eq, inS, notInS, inA, notInA, noDct, isInD, notInD, inB, flatD, eqF, eqD, neD, eqB, scalEq, isD, isNotD, isB, ofString_beq, ofString_inj, mChain, mAndV, mOrV, mNotV, mApp, kgI, keyD, e, tvD]
        · rw [cf13]; unfold bd13; simp [sSeq, sIf, sRetX, sSetX, sPut, sDrop, sRetO_eq, sRetN, sPass, sNil, mBin, mVal, mOwnIx, mOwnIxA, mOwn, mC, mTB, mAnd, mOr, mNot, mCB, mCons, mNil, mTup, mIf, mFree, mCall, mCallO, mIsi, mTru, mUn, mAndV, mOrV, mNotV, mSl, mPart, mNoPart, mCW, mMth, mPop, mOwnL, mStrip, getV_eq, getO_eq, ownL, asB, asI, optO, fin1, fnD, settleX_nil, settleX_cons, settles_nil, settle_nil, settle1_nil, settle_cons, settle1_cons, settles_cons, frz, free, frees, free1, ltD, gtD, leD, geD, ordD, intOf, absD, lenD, lenA, listW, ixD, ixA, L2.atI, L2.ixN, addD, subD, modD, fdvD, powD, Dl.intD, negD, strip_eq, isOwn_eq, truthD, isiD, tyOf, isAny, kt0, kb_NoneType_bool, kb_NoneType_int, kb_NoneType_str, kb_NoneType_tuple, kb_NoneType_list, kb_NoneType_dict, kb_NoneType_float, kb_NoneType_set, kb_bool_bool, kb_bool_int, kb_bool_str, kb_bool_tuple, kb_bool_list, kb_bool_dict, kb_bool_float, kb_bool_set, kb_int_bool, kb_int_int, kb_int_str, kb_int_tuple, kb_int_list, kb_int_dict, kb_int_float, kb_int_set, kb_str_bool, kb_str_int, kb_str_str, kb_str_tuple, kb_str_list, kb_str_dict, kb_str_float, kb_str_set, kb_tuple_bool, kb_tuple_int, kb_tuple_str, kb_tuple_tuple, kb_tuple_list, kb_tuple_dict, kb_tuple_float, kb_tuple_set, kb_list_bool, kb_list_int, kb_list_str, kb_list_tuple, kb_list_list, kb_list_dict, kb_list_float, kb_list_set, kb_dict_bool, kb_dict_int, kb_dict_str, kb_dict_tuple, kb_dict_list, kb_dict_dict, kb_dict_float, kb_dict_set, PySem.sizeLine_eq, inS, notInS, inA, notInA, noDct, isInD, notInD, inB, flatD, eqF, eqD, neD, eqB, scalEq, isD, isNotD, isB, ofString_beq, ofString_inj, mChain, mAndV, mOrV, mNotV, mApp, kgI, keyD, e, tvD, mDisp, mergeD, putD, valK_cons, valK_nil]
      · refine ⟨some (decide (i ≤ k)), fun n hn => ?_⟩
        obtain ⟨j, rfl⟩ : ∃ j, n = j + 1 := ⟨n - 1, by omega⟩
        have x : (i < k + 1) = (i ≤ k) := propext Int.lt_add_one_iff
        constructor
        · rw [cf0]; unfold bd0; simp [sSeq, sIf, sRetX, sSetX, sPut, sDrop, sRetO_eq, sRetN, sPass, sNil, mBin, mVal, mOwnIx, mOwnIxA, mOwn, mC, mTB, mAnd, mOr, mNot, mCB, mCons, mNil, mTup, mIf, mFree, mCall, mCallO, mIsi, mTru, mUn, mAndV, mOrV, mNotV, mSl, mPart, mNoPart, mCW, mMth, mPop, mOwnL, mStrip, getV_eq, getO_eq, ownL, asB, asI, optO, fin1, fnD, settleX_nil, settleX_cons, settles_nil, settle_nil, settle1_nil, settle_cons, settle1_cons, settles_cons, frz, free, frees, free1, ltD, gtD, leD, geD, ordD, intOf, absD, lenD, lenA, listW, ixD, ixA, L2.atI, L2.ixN, addD, subD, modD, fdvD, powD, Dl.intD, negD, strip_eq, isOwn_eq, truthD, isiD, tyOf, isAny, kt0, kb_NoneType_bool, kb_NoneType_int, kb_NoneType_str, kb_NoneType_tuple, kb_NoneType_list, kb_NoneType_dict, kb_NoneType_float, kb_NoneType_set, kb_bool_bool, kb_bool_int, kb_bool_str, kb_bool_tuple, kb_bool_list, kb_bool_dict, kb_bool_float, kb_bool_set, kb_int_bool, kb_int_int, kb_int_str, kb_int_tuple, kb_int_list, kb_int_dict, kb_int_float, kb_int_set, kb_str_bool, kb_str_int, kb_str_str, kb_str_tuple, kb_str_list, kb_str_dict, kb_str_float, kb_str_set, kb_tuple_bool, kb_tuple_int, kb_tuple_str, kb_tuple_tuple, kb_tuple_list, kb_tuple_dict, kb_tuple_float, kb_tuple_set, kb_list_bool, kb_list_int, kb_list_str, kb_list_tuple, kb_list_list, kb_list_dict, kb_list_float, kb_list_set, kb_dict_bool, kb_dict_int, kb_dict_str, kb_dict_tuple, kb_dict_list, kb_dict_dict, kb_dict_float, kb_dict_set, PySem.sizeLine_eq, inS, notInS, inA, notInA, noDct, isInD, notInD, inB, flatD, eqF, eqD, neD, eqB, scalEq, isD, isNotD, isB, ofString_beq, ofString_inj, mChain, mAndV, mOrV, mNotV, mApp, kgI, keyD, e, tvD]
        · rw [cf13]; unfold bd13; simp [sSeq, sIf, sRetX, sSetX, sPut, sDrop, sRetO_eq, sRetN, sPass, sNil, mBin, mVal, mOwnIx, mOwnIxA, mOwn, mC, mTB, mAnd, mOr, mNot, mCB, mCons, mNil, mTup, mIf, mFree, mCall, mCallO, mIsi, mTru, mUn, mAndV, mOrV, mNotV, mSl, mPart, mNoPart, mCW, mMth, mPop, mOwnL, mStrip, getV_eq, getO_eq, ownL, asB, asI, optO, fin1, fnD, settleX_nil, settleX_cons, settles_nil, settle_nil, settle1_nil, settle_cons, settle1_cons, settles_cons, frz, free, frees, free1, ltD, gtD, leD, geD, ordD, intOf, absD, lenD, lenA, listW, ixD, ixA, L2.atI, L2.ixN, addD, subD, modD, fdvD, powD, Dl.intD, negD, strip_eq, isOwn_eq, truthD, isiD, tyOf, isAny, kt0, kb_NoneType_bool, kb_NoneType_int, kb_NoneType_str, kb_NoneType_tuple, kb_NoneType_list, kb_NoneType_dict, kb_NoneType_float, kb_NoneType_set, kb_bool_bool, kb_bool_int, kb_bool_str, kb_bool_tuple, kb_bool_list, kb_bool_dict, kb_bool_float, kb_bool_set, kb_int_bool, kb_int_int, kb_int_str, kb_int_tuple, kb_int_list, kb_int_dict, kb_int_float, kb_int_set, kb_str_bool, kb_str_int, kb_str_str, kb_str_tuple, kb_str_list, kb_str_dict, kb_str_float, kb_str_set, kb_tuple_bool, kb_tuple_int, kb_tuple_str, kb_tuple_tuple, kb_tuple_list, kb_tuple_dict, kb_tuple_float, kb_tuple_set, kb_list_bool, kb_list_int, kb_list_str, kb_list_tuple, kb_list_list, kb_list_dict, kb_list_float, kb_list_set, kb_dict_bool, kb_dict_int, kb_dict_str, kb_dict_tuple, kb_dict_list, kb_dict_dict, kb_dict_float, kb_dict_set, PySem.sizeLine_eq, inS, notInS, inA, notInA, noDct, isInD, notInD, inB, flatD, eqF, eqD, neD, eqB, scalEq, isD, isNotD, isB, ofString_beq, ofString_inj, mChain, mAndV, mOrV, mNotV, mApp, kgI, keyD, e, tvD, mDisp, mergeD, putD, valK_cons, valK_nil, x]
      · refine ⟨some (i == k), fun n hn => ?_⟩
        obtain ⟨j, rfl⟩ : ∃ j, n = j + 1 := ⟨n - 1, by omega⟩
        have x : (i - k == 0) = (i == k) := by rw [Bool.eq_iff_iff, beq_iff_eq, beq_iff_eq]; omega
        constructor
        · rw [cf0]; unfold bd0; simp [sSeq, sIf, sRetX, sSetX, sPut, sDrop, sRetO_eq, sRetN, sPass, sNil, mBin, mVal, mOwnIx, mOwnIxA, mOwn, mC, mTB, mAnd, mOr, mNot, mCB, mCons, mNil, mTup, mIf, mFree, mCall, mCallO, mIsi, mTru, mUn, mAndV, mOrV, mNotV, mSl, mPart, mNoPart, mCW, mMth, mPop, mOwnL, mStrip, getV_eq, getO_eq, ownL, asB, asI, optO, fin1, fnD, settleX_nil, settleX_cons, settles_nil, settle_nil, settle1_nil, settle_cons, settle1_cons, settles_cons, frz, free, frees, free1, ltD, gtD, leD, geD, ordD, intOf, absD, lenD, lenA, listW, ixD, ixA, L2.atI, L2.ixN, addD, subD, modD, fdvD, powD, Dl.intD, negD, strip_eq, isOwn_eq, truthD, isiD, tyOf, isAny, kt0, kb_NoneType_bool, kb_NoneType_int, kb_NoneType_str, kb_NoneType_tuple, kb_NoneType_list, kb_NoneType_dict, kb_NoneType_float, kb_NoneType_set, kb_bool_bool, kb_bool_int, kb_bool_str, kb_bool_tuple, kb_bool_list, kb_bool_dict, kb_bool_float, kb_bool_set, kb_int_bool, kb_int_int, kb_int_str, kb_int_tuple, kb_int_list, kb_int_dict, kb_int_float, kb_int_set, kb_str_bool, kb_str_int, kb_str_str, kb_str_tuple, kb_str_list, kb_str_dict, kb_str_float, kb_str_set, kb_tuple_bool, kb_tuple_int, kb_tuple_str, kb_tuple_tuple, kb_tuple_list, kb_tuple_dict, kb_tuple_float, kb_tuple_set, kb_list_bool, kb_list_int, kb_list_str, kb_list_tuple, kb_list_list, kb_list_dict, kb_list_float, kb_list_set, kb_dict_bool, kb_dict_int, kb_dict_str, kb_dict_tuple, kb_dict_list, kb_dict_dict, kb_dict_float, kb_dict_set, PySem.sizeLine_eq, inS, notInS, inA, notInA, noDct, isInD, notInD, inB, flatD, eqF, eqD, neD, eqB, scalEq, isD, isNotD, isB, ofString_beq, ofString_inj, mChain, mAndV, mOrV, mNotV, mApp, kgI, keyD, e, tvD]
        · rw [cf13]; unfold bd13; simp [sSeq, sIf, sRetX, sSetX, sPut, sDrop, sRetO_eq, sRetN, sPass, sNil, mBin, mVal, mOwnIx, mOwnIxA, mOwn, mC, mTB, mAnd, mOr, mNot, mCB, mCons, mNil, mTup, mIf, mFree, mCall, mCallO, mIsi, mTru, mUn, mAndV, mOrV, mNotV, mSl, mPart, mNoPart, mCW, mMth, mPop, mOwnL, mStrip, getV_eq, getO_eq, ownL, asB, asI, optO, fin1, fnD, settleX_nil, settleX_cons, settles_nil, settle_nil, settle1_nil, settle_cons, settle1_cons, settles_cons, frz, free, frees, free1, ltD, gtD, leD, geD, ordD, intOf, absD, lenD, lenA, listW, ixD, ixA, L2.atI, L2.ixN, addD, subD, modD, fdvD, powD, Dl.intD, negD, strip_eq, isOwn_eq, truthD, isiD, tyOf, isAny, kt0, kb_NoneType_bool, kb_NoneType_int, kb_NoneType_str, kb_NoneType_tuple, kb_NoneType_list, kb_NoneType_dict, kb_NoneType_float, kb_NoneType_set, kb_bool_bool, kb_bool_int, kb_bool_str, kb_bool_tuple, kb_bool_list, kb_bool_dict, kb_bool_float, kb_bool_set, kb_int_bool, kb_int_int, kb_int_str, kb_int_tuple, kb_int_list, kb_int_dict, kb_int_float, kb_int_set, kb_str_bool, kb_str_int, kb_str_str, kb_str_tuple, kb_str_list, kb_str_dict, kb_str_float, kb_str_set, kb_tuple_bool, kb_tuple_int, kb_tuple_str, kb_tuple_tuple, kb_tuple_list, kb_tuple_dict, kb_tuple_float, kb_tuple_set, kb_list_bool, kb_list_int, kb_list_str, kb_list_tuple, kb_list_list, kb_list_dict, kb_list_float, kb_list_set, kb_dict_bool, kb_dict_int, kb_dict_str, kb_dict_tuple, kb_dict_list, kb_dict_dict, kb_dict_float, kb_dict_set, PySem.sizeLine_eq, inS, notInS, inA, notInA, noDct, isInD, notInD, inB, flatD, eqF, eqD, neD, eqB, scalEq, isD, isNotD, isB, ofString_beq, ofString_inj, mChain, mAndV, mOrV, mNotV, mApp, kgI, keyD, e, tvD, mDisp, mergeD, putD, valK_cons, valK_nil, x]
  | @nul c hc =>
    rcases hr c hc with e | ⟨i, e⟩
    · refine ⟨some true, fun n hn => ?_⟩
      obtain ⟨j, rfl⟩ : ∃ j, n = j + 1 := ⟨n - 1, by omega⟩
      constructor
      · rw [cf0]; unfold bd0; simp [sSeq, sIf, sRetX, sSetX, sPut, sDrop, sRetO_eq, sRetN, sPass, sNil, mBin, mVal, mOwnIx, mOwnIxA, mOwn, mC, mTB, mAnd, mOr, mNot, mCB, mCons, mNil, mTup, mIf, mFree, mCall, mCallO, mIsi, mTru, mUn, mAndV, mOrV, mNotV, mSl, mPart, mNoPart, mCW, mMth, mPop, mOwnL, mStrip, getV_eq, getO_eq, ownL, asB, asI, optO, fin1, fnD, settleX_nil, settleX_cons, settles_nil, settle_nil, settle1_nil, settle_cons, settle1_cons, settles_cons, frz, free, frees, free1, ltD, gtD, leD, geD, ordD, intOf, absD, lenD, lenA, listW, ixD, ixA, L2.atI, L2.ixN, addD, subD, modD, fdvD, powD, Dl.intD, negD, strip_eq, isOwn_eq, truthD, isiD, tyOf, isAny, kt0, kb_NoneType_bool, kb_NoneType_int, kb_NoneType_str, kb_NoneType_tuple, kb_NoneType_list, kb_NoneType_dict, kb_NoneType_float, kb_NoneType_set, kb_bool_bool, kb_bool_int, kb_bool_str, kb_bool_tuple, kb_bool_list, kb_bool_dict, kb_bool_float, kb_bool_set, kb_int_bool, kb_int_int, kb_int_str, kb_int_tuple, kb_int_list, kb_int_dict, kb_int_float, kb_int_set, kb_str_bool, kb_str_int, kb_str_str, kb_str_tuple, kb_str_list, kb_str_dict, kb_str_float, kb_str_set, kb_tuple_bool, kb_tuple_int, kb_tuple_str, kb_tuple_tuple, kb_tuple_list, kb_tuple_dict, kb_tuple_float, kb_tuple_set, kb_list_bool, kb_list_int, kb_list_str, kb_list_tuple, kb_list_list, kb_list_dict, kb_list_float, kb_list_set, kb_dict_bool, kb_dict_int, kb_dict_str, kb_dict_tuple, kb_dict_list, kb_dict_dict, kb_dict_float, kb_dict_set, PySem.sizeLine_eq, inS, notInS, inA, notInA, noDct, isInD, notInD, inB, flatD, eqF, eqD, neD, eqB, scalEq, isD, isNotD, isB, ofString_beq, ofString_inj, mChain, mAndV, mOrV, mNotV, mApp, kgI, keyD, e, tvD]
      · rw [cf13]; unfold bd13; simp [sSeq, sIf, sRetX, sSetX, sPut, sDrop, sRetO_eq, sRetN, sPass, sNil, mBin, mVal, mOwnIx, mOwnIxA, mOwn, mC, mTB, mAnd, mOr, mNot, mCB, mCons, mNil, mTup, mIf, mFree, mCall, mCallO, mIsi, mTru, mUn, mAndV, mOrV, mNotV, mSl, mPart, mNoPart, mCW, mMth, mPop, mOwnL, mStrip, getV_eq, getO_eq, ownL, asB, asI, optO, fin1, fnD, settleX_nil, settleX_cons, settles_nil, settle_nil, settle1_nil, settle_cons, settle1_cons, settles_cons, frz, free, frees, free1, ltD, gtD, leD, geD, ordD, intOf, absD, lenD, lenA, listW, ixD, ixA, L2.atI, L2.ixN, addD, subD, modD, fdvD, powD, Dl.intD, negD, strip_eq, isOwn_eq, truthD, isiD, tyOf, isAny, kt0, kb_NoneType_bool, kb_NoneType_int, kb_NoneType_str, kb_NoneType_tuple, kb_NoneType_list, kb_NoneType_dict, kb_NoneType_float, kb_NoneType_set, kb_bool_bool, kb_bool_int, kb_bool_str, kb_bool_tuple, kb_bool_list, kb_bool_dict, kb_bool_float, kb_bool_set, kb_int_bool, kb_int_int, kb_int_str, kb_int_tuple, kb_int_list, kb_int_dict, kb_int_float, kb_int_set, kb_str_bool, kb_str_int, kb_str_str, kb_str_tuple, kb_str_list, kb_str_dict, kb_str_float, kb_str_set, kb_tuple_bool, kb_tuple_int, kb_tuple_str, kb_tuple_tuple, kb_tuple_list, kb_tuple_dict, kb_tuple_float, kb_tuple_set, kb_list_bool, kb_list_int, kb_list_str, kb_list_tuple, kb_list_list, kb_list_dict, kb_list_float, kb_list_set, kb_dict_bool, kb_dict_int, kb_dict_str, kb_dict_tuple, kb_dict_list, kb_dict_dict, kb_dict_float, kb_dict_set, PySem.sizeLine_eq, inS, notInS, inA, notInA, noDct, isInD, notInD, inB, flatD, eqF, eqD, neD, eqB, scalEq, isD, isNotD, isB, ofString_beq, ofString_inj, mChain, mAndV, mOrV, mNotV, mApp, kgI, keyD, e, tvD]
    · refine ⟨some false, fun n hn => ?_⟩
      obtain ⟨j, rfl⟩ : ∃ j, n = j + 1 := ⟨n - 1, by omega⟩
      constructor
      · rw [cf0]; unfold bd0; simp [sSeq, sIf, sRetX, sSetX, sPut, sDrop, sRetO_eq, sRetN, sPass, sNil, mBin, mVal, mOwnIx, mOwnIxA, mOwn, mC, mTB, mAnd, mOr, mNot, mCB, mCons, mNil, mTup, mIf, mFree, mCall, mCallO, mIsi, mTru, mUn, mAndV, mOrV, mNotV, mSl, mPart, mNoPart, mCW, mMth, mPop, mOwnL, mStrip, getV_eq, getO_eq, ownL, asB, asI, optO, fin1, fnD, settleX_nil, settleX_cons, settles_nil, settle_nil, settle1_nil, settle_cons, settle1_cons, settles_cons, frz, free, frees, free1, ltD, gtD, leD, geD, ordD, intOf, absD, lenD, lenA, listW, ixD, ixA, L2.atI, L2.ixN, addD, subD, modD, fdvD, powD, Dl.intD, negD, strip_eq, isOwn_eq, truthD, isiD, tyOf, isAny, kt0, kb_NoneType_bool, kb_NoneType_int, kb_NoneType_str, kb_NoneType_tuple, kb_NoneType_list, kb_NoneType_dict, kb_NoneType_float, kb_NoneType_set, kb_bool_bool, kb_bool_int, kb_bool_str, kb_bool_tuple, kb_bool_list, kb_bool_dict, kb_bool_float, kb_bool_set, kb_int_bool, kb_int_int, kb_int_str, kb_int_tuple, kb_int_list, kb_int_dict, kb_int_float, kb_int_set, kb_str_bool, kb_str_int, kb_str_str, kb_str_tuple, kb_str_list, kb_str_dict, kb_str_float, kb_str_set, kb_tuple_bool, kb_tuple_int, kb_tuple_str, kb_tuple_tuple, kb_tuple_list, kb_tuple_dict, kb_tuple_float, kb_tuple_set, kb_list_bool, kb_list_int, kb_list_str, kb_list_tuple, kb_list_list, kb_list_dict, kb_list_float, kb_list_set, kb_dict_bool, kb_dict_int, kb_dict_str, kb_dict_tuple, kb_dict_list, kb_dict_dict, kb_dict_float, kb_dict_set, PySem.sizeLine_eq, inS, notInS, inA, notInA, noDct, isInD, notInD, inB, flatD, eqF, eqD, neD, eqB, scalEq, isD, isNotD, isB, ofString_beq, ofString_inj, mChain, mAndV, mOrV, mNotV, mApp, kgI, keyD, e, tvD]
      · rw [cf13]; unfold bd13; simp [sSeq, sIf, sRetX, sSetX, sPut, sDrop, sRetO_eq, sRetN, sPass, sNil, mBin, mVal, mOwnIx, mOwnIxA, mOwn, mC, mTB, mAnd, mOr, mNot, mCB, mCons, mNil, mTup, mIf, mFree, mCall, mCallO, mIsi, mTru, mUn, mAndV, mOrV, mNotV, mSl, mPart, mNoPart, mCW, mMth, mPop, mOwnL, mStrip, getV_eq, getO_eq, ownL, asB, asI, optO, fin1, fnD, settleX_nil, settleX_cons, settles_nil, settle_nil, settle1_nil, settle_cons, settle1_cons, settles_cons, frz, free, frees, free1, ltD, gtD, leD, geD, ordD, intOf, absD, lenD, lenA, listW, ixD, ixA, L2.atI, L2.ixN, addD, subD, modD, fdvD, powD, Dl.intD, negD, strip_eq, isOwn_eq, truthD, isiD, tyOf, isAny, kt0, kb_NoneType_bool, kb_NoneType_int, kb_NoneType_str, kb_NoneType_tuple, kb_NoneType_list, kb_NoneType_dict, kb_NoneType_float, kb_NoneType_set, kb_bool_bool, kb_bool_int, kb_bool_str, kb_bool_tuple, kb_bool_list, kb_bool_dict, kb_bool_float, kb_bool_set, kb_int_bool, kb_int_int, kb_int_str, kb_int_tuple, kb_int_list, kb_int_dict, kb_int_float, kb_int_set, kb_str_bool, kb_str_int, kb_str_str, kb_str_tuple, kb_str_list, kb_str_dict, kb_str_float, kb_str_set, kb_tuple_bool, kb_tuple_int, kb_tuple_str, kb_tuple_tuple, kb_tuple_list, kb_tuple_dict, kb_tuple_float, kb_tuple_set, kb_list_bool, kb_list_int, kb_list_str, kb_list_tuple, kb_list_list, kb_list_dict, kb_list_float, kb_list_set, kb_dict_bool, kb_dict_int, kb_dict_str, kb_dict_tuple, kb_dict_list, kb_dict_dict, kb_dict_float, kb_dict_set, PySem.sizeLine_eq, inS, notInS, inA, notInA, noDct, isInD, notInD, inB, flatD, eqF, eqD, neD, eqB, scalEq, isD, isNotD, isB, ofString_beq, ofString_inj, mChain, mAndV, mOrV, mNotV, mApp, kgI, keyD, e, tvD]
  | @not t s d m q ih =>
    obtain ⟨b, hb⟩ := ih
    refine ⟨b.map (!·), fun n hn => ?_⟩
    obtain ⟨j, rfl⟩ : ∃ j, n = j + 2 := ⟨n - 2, by omega⟩
    obtain ⟨e1, e2⟩ := hb (j + 1) (by omega)
    exact truth_not q.own rfl e1 e2
  | @bin a c w s s' d d' m m' hw qa qc ia ic =>
    obtain ⟨b1, h1⟩ := ia
    obtain ⟨b2, h2⟩ := ic
    obtain ⟨b, hb⟩ := truth_bin (b1 := b1) (b2 := b2) hw qa.own qc.own (row := .dct l) rfl
    refine ⟨b, fun n hn => ?_⟩
    obtain ⟨j, rfl⟩ : ∃ j, n = j + 2 := ⟨n - 2, by omega⟩
    obtain ⟨e1, e2⟩ := h1 (j + 1) (by omega)
    obtain ⟨e3, e4⟩ := h2 (j + 1) (by omega)
    exact hb j e1 e2 e3 e4
end Lw
set_option maxHeartbeats 0
/-! L04x: k04, numbers, one step each. -/
namespace Lw
open Dl
variable {cols names : List S}
theorem cap_le {a b : Nat} (h : a ≤ b) : 2 ^ (67 + 4 * a) ≤ 2 ^ (67 + 4 * b) := Nat.pow_le_pow_right (by omega) (by omega)
theorem cap_16 (a : Nat) : 2 ^ (67 + 4 * (1 + a)) = 16 * 2 ^ (67 + 4 * a) := by
  rw [show 67 + 4 * (1 + a) = 67 + 4 * a + 4 from by omega, Nat.pow_add]; omega
theorem cap_r {a b : Nat} : 2 ^ (67 + 4 * (1 + (a + b))) = 16 * 2 ^ (67 + 4 * (a + b)) := cap_16 _
theorem rep_sum (N : Int) : ∀ k : Nat, intsD (List.replicate k [D.int N]).flatten = some (List.replicate k N)
  | 0 => rfl
  | k + 1 => by
    rw [List.replicate_succ, List.flatten_cons, List.replicate_succ]
    show (intsD (List.replicate k [D.int N]).flatten).map _ = _
    rw [rep_sum N k]
    rfl
theorem sum_rep (N : Int) : ∀ k : Nat, (List.replicate k N).sum = k * N
  | 0 => by simp
  | k + 1 => by rw [List.replicate_succ, List.sum_cons, sum_rep N k, Int.natCast_add, Int.add_mul]; omega
theorem numA_plus {n : Nat} {a b nums row : D} {N M : Int} (nown : isOwnD nums = false) (rown : isOwnD row = false) (oa : isOwnD a = false) (ob : isOwnD b = false)
    (e1 : callF n 2 [a, nums, row] = .ret (.int N) []) (e3 : callF n 2 [b, nums, row] = .ret (.int M) []) :
    callF (n + 1) 2 [.tup [.str "plus", a, b], nums, row] = .ret (.int (N + M)) [] := by
  rw [cf2]; unfold bd2; simp [sSeq, sIf, sRetX, sSetX, sPut, sDrop, sRetO_eq, sRetN, sPass, sNil, mBin, mVal, mOwnIx, mOwnIxA, mOwn, mC, mTB, mAnd, mOr, mNot, mCB, mCons, mNil, mTup, mIf, mFree, mCall, mCallO, mIsi, mTru, mUn, mAndV, mOrV, mNotV, mSl, mPart, mNoPart, mCW, mMth, mPop, mOwnL, mStrip, getV_eq, getO_eq, ownL, asB, asI, optO, fin1, fnD, settleX_nil, settleX_cons, settles_nil, settle_nil, settle1_nil, settle_cons, settle1_cons, settles_cons, frz, free, frees, free1, ltD, gtD, leD, geD, ordD, intOf, absD, lenD, lenA, listW, ixD, ixA, L2.atI, L2.ixN, addD, subD, modD, fdvD, powD, Dl.intD, negD, strip_eq, isOwn_eq, truthD, isiD, tyOf, isAny, kt0, kb_NoneType_bool, kb_NoneType_int, kb_NoneType_str, kb_NoneType_tuple, kb_NoneType_list, kb_NoneType_dict, kb_NoneType_float, kb_NoneType_set, kb_bool_bool, kb_bool_int, kb_bool_str, kb_bool_tuple, kb_bool_list, kb_bool_dict, kb_bool_float, kb_bool_set, kb_int_bool, kb_int_int, kb_int_str, kb_int_tuple, kb_int_list, kb_int_dict, kb_int_float, kb_int_set, kb_str_bool, kb_str_int, kb_str_str, kb_str_tuple, kb_str_list, kb_str_dict, kb_str_float, kb_str_set, kb_tuple_bool, kb_tuple_int, kb_tuple_str, kb_tuple_tuple, kb_tuple_list, kb_tuple_dict, kb_tuple_float, kb_tuple_set, kb_list_bool, kb_list_int, kb_list_str, kb_list_tuple, kb_list_list, kb_list_dict, kb_list_float, kb_list_set, kb_dict_bool, kb_dict_int, kb_dict_str, kb_dict_tuple, kb_dict_list, kb_dict_dict, kb_dict_float, kb_dict_set, PySem.sizeLine_eq, inS, notInS, inA, notInA, noDct, isInD, notInD, inB, flatD, eqF, eqD, neD, eqB, scalEq, isD, isNotD, isB, ofString_beq, ofString_inj, mChain, mAndV, mOrV, mNotV, mApp, kgI, nown, rown, e1, e3, oa, ob]
theorem numA_both {n : Nat} {a b nums row : D} {N M : Int} (nown : isOwnD nums = false) (rown : isOwnD row = false) (oa : isOwnD a = false) (ob : isOwnD b = false)
    (e1 : callF n 2 [a, nums, row] = .ret (.int N) []) (e3 : callF n 2 [b, nums, row] = .ret (.int M) []) :
    callF (n + 1) 2 [.tup [.str "both", a, b], nums, row] = .ret (.int (if M < N then M else N)) [] := by
  rw [cf2]; unfold bd2; simp [sSeq, sIf, sRetX, sSetX, sPut, sDrop, sRetO_eq, sRetN, sPass, sNil, mBin, mVal, mOwnIx, mOwnIxA, mOwn, mC, mTB, mAnd, mOr, mNot, mCB, mCons, mNil, mTup, mIf, mFree, mCall, mCallO, mIsi, mTru, mUn, mAndV, mOrV, mNotV, mSl, mPart, mNoPart, mCW, mMth, mPop, mOwnL, mStrip, getV_eq, getO_eq, ownL, asB, asI, optO, fin1, fnD, settleX_nil, settleX_cons, settles_nil, settle_nil, settle1_nil, settle_cons, settle1_cons, settles_cons, frz, free, frees, free1, ltD, gtD, leD, geD, ordD, intOf, absD, lenD, lenA, listW, ixD, ixA, L2.atI, L2.ixN, addD, subD, modD, fdvD, powD, Dl.intD, negD, strip_eq, isOwn_eq, truthD, isiD, tyOf, isAny, kt0, kb_NoneType_bool, kb_NoneType_int, kb_NoneType_str, kb_NoneType_tuple, kb_NoneType_list, kb_NoneType_dict, kb_NoneType_float, kb_NoneType_set, kb_bool_bool, kb_bool_int, kb_bool_str, kb_bool_tuple, kb_bool_list, kb_bool_dict, kb_bool_float, kb_bool_set, kb_int_bool, kb_int_int, kb_int_str, kb_int_tuple, kb_int_list, kb_int_dict, kb_int_float, kb_int_set, kb_str_bool, kb_str_int, kb_str_str, kb_str_tuple, kb_str_list, kb_str_dict, kb_str_float, kb_str_set, kb_tuple_bool, kb_tuple_int, kb_tuple_str, kb_tuple_tuple, kb_tuple_list, kb_tuple_dict, kb_tuple_float, kb_tuple_set, kb_list_bool, kb_list_int, kb_list_str, kb_list_tuple, kb_list_list, kb_list_dict, kb_list_float, kb_list_set, kb_dict_bool, kb_dict_int, kb_dict_str, kb_dict_tuple, kb_dict_list, kb_dict_dict, kb_dict_float, kb_dict_set, PySem.sizeLine_eq, inS, notInS, inA, notInA, noDct, isInD, notInD, inB, flatD, eqF, eqD, neD, eqB, scalEq, isD, isNotD, isB, ofString_beq, ofString_inj, mChain, mAndV, mOrV, mNotV, mApp, kgI, nown, rown, e1, e3, oa, ob, minD]
theorem numA_either {n : Nat} {a b nums row : D} {N M : Int} (nown : isOwnD nums = false) (rown : isOwnD row = false) (oa : isOwnD a = false) (ob : isOwnD b = false)
    (e1 : callF n 2 [a, nums, row] = .ret (.int N) []) (e3 : callF n 2 [b, nums, row] = .ret (.int M) []) :
    callF (n + 1) 2 [.tup [.str "either", a, b], nums, row] = .ret (.int (if M > N then M else N)) [] := by
  rw [cf2]; unfold bd2; simp [sSeq, sIf, sRetX, sSetX, sPut, sDrop, sRetO_eq, sRetN, sPass, sNil, mBin, mVal, mOwnIx, mOwnIxA, mOwn, mC, mTB, mAnd, mOr, mNot, mCB, mCons, mNil, mTup, mIf, mFree, mCall, mCallO, mIsi, mTru, mUn, mAndV, mOrV, mNotV, mSl, mPart, mNoPart, mCW, mMth, mPop, mOwnL, mStrip, getV_eq, getO_eq, ownL, asB, asI, optO, fin1, fnD, settleX_nil, settleX_cons, settles_nil, settle_nil, settle1_nil, settle_cons, settle1_cons, settles_cons, frz, free, frees, free1, ltD, gtD, leD, geD, ordD, intOf, absD, lenD, lenA, listW, ixD, ixA, L2.atI, L2.ixN, addD, subD, modD, fdvD, powD, Dl.intD, negD, strip_eq, isOwn_eq, truthD, isiD, tyOf, isAny, kt0, kb_NoneType_bool, kb_NoneType_int, kb_NoneType_str, kb_NoneType_tuple, kb_NoneType_list, kb_NoneType_dict, kb_NoneType_float, kb_NoneType_set, kb_bool_bool, kb_bool_int, kb_bool_str, kb_bool_tuple, kb_bool_list, kb_bool_dict, kb_bool_float, kb_bool_set, kb_int_bool, kb_int_int, kb_int_str, kb_int_tuple, kb_int_list, kb_int_dict, kb_int_float, kb_int_set, kb_str_bool, kb_str_int, kb_str_str, kb_str_tuple, kb_str_list, kb_str_dict, kb_str_float, kb_str_set, kb_tuple_bool, kb_tuple_int, kb_tuple_str, kb_tuple_tuple, kb_tuple_list, kb_tuple_dict, kb_tuple_float, kb_tuple_set, kb_list_bool, kb_list_int, kb_list_str, kb_list_tuple, kb_list_list, kb_list_dict, kb_list_float, kb_list_set, kb_dict_bool, kb_dict_int, kb_dict_str, kb_dict_tuple, kb_dict_list, kb_dict_dict, kb_dict_float, kb_dict_set, PySem.sizeLine_eq, inS, notInS, inA, notInA, noDct, isInD, notInD, inB, flatD, eqF, eqD, neD, eqB, scalEq, isD, isNotD, isB, ofString_beq, ofString_inj, mChain, mAndV, mOrV, mNotV, mApp, kgI, nown, rown, e1, e3, oa, ob, maxD]
theorem numA_rest {n : Nat} {a b nums row : D} {N M : Int} (nown : isOwnD nums = false) (rown : isOwnD row = false) (oa : isOwnD a = false) (ob : isOwnD b = false)
    (e1 : callF n 2 [a, nums, row] = .ret (.int N) []) (e3 : callF n 2 [b, nums, row] = .ret (.int M) []) :
    callF (n + 1) 2 [.tup [.str "rest", a, b], nums, row] = .ret (.int (if N - M > 0 then N - M else 0)) [] := by
  rw [cf2]; unfold bd2; simp [sSeq, sIf, sRetX, sSetX, sPut, sDrop, sRetO_eq, sRetN, sPass, sNil, mBin, mVal, mOwnIx, mOwnIxA, mOwn, mC, mTB, mAnd, mOr, mNot, mCB, mCons, mNil, mTup, mIf, mFree, mCall, mCallO, mIsi, mTru, mUn, mAndV, mOrV, mNotV, mSl, mPart, mNoPart, mCW, mMth, mPop, mOwnL, mStrip, getV_eq, getO_eq, ownL, asB, asI, optO, fin1, fnD, settleX_nil, settleX_cons, settles_nil, settle_nil, settle1_nil, settle_cons, settle1_cons, settles_cons, frz, free, frees, free1, ltD, gtD, leD, geD, ordD, intOf, absD, lenD, lenA, listW, ixD, ixA, L2.atI, L2.ixN, addD, subD, modD, fdvD, powD, Dl.intD, negD, strip_eq, isOwn_eq, truthD, isiD, tyOf, isAny, kt0, kb_NoneType_bool, kb_NoneType_int, kb_NoneType_str, kb_NoneType_tuple, kb_NoneType_list, kb_NoneType_dict, kb_NoneType_float, kb_NoneType_set, kb_bool_bool, kb_bool_int, kb_bool_str, kb_bool_tuple, kb_bool_list, kb_bool_dict, kb_bool_float, kb_bool_set, kb_int_bool, kb_int_int, kb_int_str, kb_int_tuple, kb_int_list, kb_int_dict, kb_int_float, kb_int_set, kb_str_bool, kb_str_int, kb_str_str, kb_str_tuple, kb_str_list, kb_str_dict, kb_str_float, kb_str_set, kb_tuple_bool, kb_tuple_int, kb_tuple_str, kb_tuple_tuple, kb_tuple_list, kb_tuple_dict, kb_tuple_float, kb_tuple_set, kb_list_bool, kb_list_int, kb_list_str, kb_list_tuple, kb_list_list, kb_list_dict, kb_list_float, kb_list_set, kb_dict_bool, kb_dict_int, kb_dict_str, kb_dict_tuple, kb_dict_list, kb_dict_dict, kb_dict_float, kb_dict_set, PySem.sizeLine_eq, inS, notInS, inA, notInA, noDct, isInD, notInD, inB, flatD, eqF, eqD, neD, eqB, scalEq, isD, isNotD, isB, ofString_beq, ofString_inj, mChain, mAndV, mOrV, mNotV, mApp, kgI, nown, rown, e1, e3, oa, ob, maxD]
theorem numB_plus {n : Nat} {a b nums row : D} {N M : Int} (nown : isOwnD nums = false) (rown : isOwnD row = false) (oa : isOwnD a = false) (ob : isOwnD b = false)
    (e1 : callF n 14 [a, nums, row] = .ret (.int N) []) (e3 : callF n 14 [b, nums, row] = .ret (.int M) []) :
    callF (n + 1) 14 [.tup [.str "plus", a, b], nums, row] = .ret (.int (N + M)) [] := by
  by_cases c : N ≤ M
  · rw [cf14]; unfold bd14; simp [sSeq, sIf, sRetX, sSetX, sPut, sDrop, sRetO_eq, sRetN, sPass, sNil, mBin, mVal, mOwnIx, mOwnIxA, mOwn, mC, mTB, mAnd, mOr, mNot, mCB, mCons, mNil, mTup, mIf, mFree, mCall, mCallO, mIsi, mTru, mUn, mAndV, mOrV, mNotV, mSl, mPart, mNoPart, mCW, mMth, mPop, mOwnL, mStrip, getV_eq, getO_eq, ownL, asB, asI, optO, fin1, fnD, settleX_nil, settleX_cons, settles_nil, settle_nil, settle1_nil, settle_cons, settle1_cons, settles_cons, frz, free, frees, free1, ltD, gtD, leD, geD, ordD, intOf, absD, lenD, lenA, listW, ixD, ixA, L2.atI, L2.ixN, addD, subD, modD, fdvD, powD, Dl.intD, negD, strip_eq, isOwn_eq, truthD, isiD, tyOf, isAny, kt0, kb_NoneType_bool, kb_NoneType_int, kb_NoneType_str, kb_NoneType_tuple, kb_NoneType_list, kb_NoneType_dict, kb_NoneType_float, kb_NoneType_set, kb_bool_bool, kb_bool_int, kb_bool_str, kb_bool_tuple, kb_bool_list, kb_bool_dict, kb_bool_float, kb_bool_set, kb_int_bool, kb_int_int, kb_int_str, kb_int_tuple, kb_int_list, kb_int_dict, kb_int_float, kb_int_set, kb_str_bool, kb_str_int, kb_str_str, kb_str_tuple, kb_str_list, kb_str_dict, kb_str_float, kb_str_set, kb_tuple_bool, kb_tuple_int, kb_tuple_str, kb_tuple_tuple, kb_tuple_list, kb_tuple_dict, kb_tuple_float, kb_tuple_set, kb_list_bool, kb_list_int, kb_list_str, kb_list_tuple, kb_list_list, kb_list_dict, kb_list_float, kb_list_set, kb_dict_bool, kb_dict_int, kb_dict_str, kb_dict_tuple, kb_dict_list, kb_dict_dict, kb_dict_float, kb_dict_set, PySem.sizeLine_eq, inS, notInS, inA, notInA, noDct, isInD, notInD, inB, flatD, eqF, eqD, neD, eqB, scalEq, isD, isNotD, isB, ofString_beq, ofString_inj, mChain, mAndV, mOrV, mNotV, mApp, kgI, nown, rown, e1, e3, oa, ob, mDisp, mergeD, putD, valK_cons, valK_nil, sortedAD, sortD, intsD, srtI, insI, sAsg, aTup, aCons, aNil, aName, keyD, c]
  · rw [cf14]; unfold bd14; simp [sSeq, sIf, sRetX, sSetX, sPut, sDrop, sRetO_eq, sRetN, sPass, sNil, mBin, mVal, mOwnIx, mOwnIxA, mOwn, mC, mTB, mAnd, mOr, mNot, mCB, mCons, mNil, mTup, mIf, mFree, mCall, mCallO, mIsi, mTru, mUn, mAndV, mOrV, mNotV, mSl, mPart, mNoPart, mCW, mMth, mPop, mOwnL, mStrip, getV_eq, getO_eq, ownL, asB, asI, optO, fin1, fnD, settleX_nil, settleX_cons, settles_nil, settle_nil, settle1_nil, settle_cons, settle1_cons, settles_cons, frz, free, frees, free1, ltD, gtD, leD, geD, ordD, intOf, absD, lenD, lenA, listW, ixD, ixA, L2.atI, L2.ixN, addD, subD, modD, fdvD, powD, Dl.intD, negD, strip_eq, isOwn_eq, truthD, isiD, tyOf, isAny, kt0, kb_NoneType_bool, kb_NoneType_int, kb_NoneType_str, kb_NoneType_tuple, kb_NoneType_list, kb_NoneType_dict, kb_NoneType_float, kb_NoneType_set, kb_bool_bool, kb_bool_int, kb_bool_str, kb_bool_tuple, kb_bool_list, kb_bool_dict, kb_bool_float, kb_bool_set, kb_int_bool, kb_int_int, kb_int_str, kb_int_tuple, kb_int_list, kb_int_dict, kb_int_float, kb_int_set, kb_str_bool, kb_str_int, kb_str_str, kb_str_tuple, kb_str_list, kb_str_dict, kb_str_float, kb_str_set, kb_tuple_bool, kb_tuple_int, kb_tuple_str, kb_tuple_tuple, kb_tuple_list, kb_tuple_dict, kb_tuple_float, kb_tuple_set, kb_list_bool, kb_list_int, kb_list_str, kb_list_tuple, kb_list_list, kb_list_dict, kb_list_float, kb_list_set, kb_dict_bool, kb_dict_int, kb_dict_str, kb_dict_tuple, kb_dict_list, kb_dict_dict, kb_dict_float, kb_dict_set, PySem.sizeLine_eq, inS, notInS, inA, notInA, noDct, isInD, notInD, inB, flatD, eqF, eqD, neD, eqB, scalEq, isD, isNotD, isB, ofString_beq, ofString_inj, mChain, mAndV, mOrV, mNotV, mApp, kgI, nown, rown, e1, e3, oa, ob, mDisp, mergeD, putD, valK_cons, valK_nil, sortedAD, sortD, intsD, srtI, insI, sAsg, aTup, aCons, aNil, aName, keyD, c, Int.add_comm]
theorem numB_both {n : Nat} {a b nums row : D} {N M : Int} (nown : isOwnD nums = false) (rown : isOwnD row = false) (oa : isOwnD a = false) (ob : isOwnD b = false)
    (e1 : callF n 14 [a, nums, row] = .ret (.int N) []) (e3 : callF n 14 [b, nums, row] = .ret (.int M) []) :
    callF (n + 1) 14 [.tup [.str "both", a, b], nums, row] = .ret (.int (if M < N then M else N)) [] := by
  by_cases c : N ≤ M
  · have c' : ¬ M < N := by omega
    rw [cf14]; unfold bd14; simp [sSeq, sIf, sRetX, sSetX, sPut, sDrop, sRetO_eq, sRetN, sPass, sNil, mBin, mVal, mOwnIx, mOwnIxA, mOwn, mC, mTB, mAnd, mOr, mNot, mCB, mCons, mNil, mTup, mIf, mFree, mCall, mCallO, mIsi, mTru, mUn, mAndV, mOrV, mNotV, mSl, mPart, mNoPart, mCW, mMth, mPop, mOwnL, mStrip, getV_eq, getO_eq, ownL, asB, asI, optO, fin1, fnD, settleX_nil, settleX_cons, settles_nil, settle_nil, settle1_nil, settle_cons, settle1_cons, settles_cons, frz, free, frees, free1, ltD, gtD, leD, geD, ordD, intOf, absD, lenD, lenA, listW, ixD, ixA, L2.atI, L2.ixN, addD, subD, modD, fdvD, powD, Dl.intD, negD, strip_eq, isOwn_eq, truthD, isiD, tyOf, isAny, kt0, kb_NoneType_bool, kb_NoneType_int, kb_NoneType_str, kb_NoneType_tuple, kb_NoneType_list, kb_NoneType_dict, kb_NoneType_float, kb_NoneType_set, kb_bool_bool, kb_bool_int, kb_bool_str, kb_bool_tuple, kb_bool_list, kb_bool_dict, kb_bool_float, kb_bool_set, kb_int_bool, kb_int_int, kb_int_str, kb_int_tuple, kb_int_list, kb_int_dict, kb_int_float, kb_int_set, kb_str_bool, kb_str_int, kb_str_str, kb_str_tuple, kb_str_list, kb_str_dict, kb_str_float, kb_str_set, kb_tuple_bool, kb_tuple_int, kb_tuple_str, kb_tuple_tuple, kb_tuple_list, kb_tuple_dict, kb_tuple_float, kb_tuple_set, kb_list_bool, kb_list_int, kb_list_str, kb_list_tuple, kb_list_list, kb_list_dict, kb_list_float, kb_list_set, kb_dict_bool, kb_dict_int, kb_dict_str, kb_dict_tuple, kb_dict_list, kb_dict_dict, kb_dict_float, kb_dict_set, PySem.sizeLine_eq, inS, notInS, inA, notInA, noDct, isInD, notInD, inB, flatD, eqF, eqD, neD, eqB, scalEq, isD, isNotD, isB, ofString_beq, ofString_inj, mChain, mAndV, mOrV, mNotV, mApp, kgI, nown, rown, e1, e3, oa, ob, mDisp, mergeD, putD, valK_cons, valK_nil, sortedAD, sortD, intsD, srtI, insI, sAsg, aTup, aCons, aNil, aName, keyD, c, c']
  · have c' : M < N := by omega
    rw [cf14]; unfold bd14; simp [sSeq, sIf, sRetX, sSetX, sPut, sDrop, sRetO_eq, sRetN, sPass, sNil, mBin, mVal, mOwnIx, mOwnIxA, mOwn, mC, mTB, mAnd, mOr, mNot, mCB, mCons, mNil, mTup, mIf, mFree, mCall, mCallO, mIsi, mTru, mUn, mAndV, mOrV, mNotV, mSl, mPart, mNoPart, mCW, mMth, mPop, mOwnL, mStrip, getV_eq, getO_eq, ownL, asB, asI, optO, fin1, fnD, settleX_nil, settleX_cons, settles_nil, settle_nil, settle1_nil, settle_cons, settle1_cons, settles_cons, frz, free, frees, free1, ltD, gtD, leD, geD, ordD, intOf, absD, lenD, lenA, listW, ixD, ixA, L2.atI, L2.ixN, addD, subD, modD, fdvD, powD, Dl.intD, negD, strip_eq, isOwn_eq, truthD, isiD, tyOf, isAny, kt0, kb_NoneType_bool, kb_NoneType_int, kb_NoneType_str, kb_NoneType_tuple, kb_NoneType_list, kb_NoneType_dict, kb_NoneType_float, kb_NoneType_set, kb_bool_bool, kb_bool_int, kb_bool_str, kb_bool_tuple, kb_bool_list, kb_bool_dict, kb_bool_float, kb_bool_set, kb_int_bool, kb_int_int, kb_int_str, kb_int_tuple, kb_int_list, kb_int_dict, kb_int_float, kb_int_set, kb_str_bool, kb_str_int, kb_str_str, kb_str_tuple, kb_str_list, kb_str_dict, kb_str_float, kb_str_set, kb_tuple_bool, kb_tuple_int, kb_tuple_str, kb_tuple_tuple, kb_tuple_list, kb_tuple_dict, kb_tuple_float, kb_tuple_set, kb_list_bool, kb_list_int, kb_list_str, kb_list_tuple, kb_list_list, kb_list_dict, kb_list_float, kb_list_set, kb_dict_bool, kb_dict_int, kb_dict_str, kb_dict_tuple, kb_dict_list, kb_dict_dict, kb_dict_float, kb_dict_set, PySem.sizeLine_eq, inS, notInS, inA, notInA, noDct, isInD, notInD, inB, flatD, eqF, eqD, neD, eqB, scalEq, isD, isNotD, isB, ofString_beq, ofString_inj, mChain, mAndV, mOrV, mNotV, mApp, kgI, nown, rown, e1, e3, oa, ob, mDisp, mergeD, putD, valK_cons, valK_nil, sortedAD, sortD, intsD, srtI, insI, sAsg, aTup, aCons, aNil, aName, keyD, c, c']
theorem numB_either {n : Nat} {a b nums row : D} {N M : Int} (nown : isOwnD nums = false) (rown : isOwnD row = false) (oa : isOwnD a = false) (ob : isOwnD b = false)
    (e1 : callF n 14 [a, nums, row] = .ret (.int N) []) (e3 : callF n 14 [b, nums, row] = .ret (.int M) []) :
    callF (n + 1) 14 [.tup [.str "either", a, b], nums, row] = .ret (.int (if M > N then M else N)) [] := by
  by_cases c : N ≤ M
  · by_cases c2 : M > N
    · rw [cf14]; unfold bd14; simp [sSeq, sIf, sRetX, sSetX, sPut, sDrop, sRetO_eq, sRetN, sPass, sNil, mBin, mVal, mOwnIx, mOwnIxA, mOwn, mC, mTB, mAnd, mOr, mNot, mCB, mCons, mNil, mTup, mIf, mFree, mCall, mCallO, mIsi, mTru, mUn, mAndV, mOrV, mNotV, mSl, mPart, mNoPart, mCW, mMth, mPop, mOwnL, mStrip, getV_eq, getO_eq, ownL, asB, asI, optO, fin1, fnD, settleX_nil, settleX_cons, settles_nil, settle_nil, settle1_nil, settle_cons, settle1_cons, settles_cons, frz, free, frees, free1, ltD, gtD, leD, geD, ordD, intOf, absD, lenD, lenA, listW, ixD, ixA, L2.atI, L2.ixN, addD, subD, modD, fdvD, powD, Dl.intD, negD, strip_eq, isOwn_eq, truthD, isiD, tyOf, isAny, kt0, kb_NoneType_bool, kb_NoneType_int, kb_NoneType_str, kb_NoneType_tuple, kb_NoneType_list, kb_NoneType_dict, kb_NoneType_float, kb_NoneType_set, kb_bool_bool, kb_bool_int, kb_bool_str, kb_bool_tuple, kb_bool_list, kb_bool_dict, kb_bool_float, kb_bool_set, kb_int_bool, kb_int_int, kb_int_str, kb_int_tuple, kb_int_list, kb_int_dict, kb_int_float, kb_int_set, kb_str_bool, kb_str_int, kb_str_str, kb_str_tuple, kb_str_list, kb_str_dict, kb_str_float, kb_str_set, kb_tuple_bool, kb_tuple_int, kb_tuple_str, kb_tuple_tuple, kb_tuple_list, kb_tuple_dict, kb_tuple_float, kb_tuple_set, kb_list_bool, kb_list_int, kb_list_str, kb_list_tuple, kb_list_list, kb_list_dict, kb_list_float, kb_list_set, kb_dict_bool, kb_dict_int, kb_dict_str, kb_dict_tuple, kb_dict_list, kb_dict_dict, kb_dict_float, kb_dict_set, PySem.sizeLine_eq, inS, notInS, inA, notInA, noDct, isInD, notInD, inB, flatD, eqF, eqD, neD, eqB, scalEq, isD, isNotD, isB, ofString_beq, ofString_inj, mChain, mAndV, mOrV, mNotV, mApp, kgI, nown, rown, e1, e3, oa, ob, mDisp, mergeD, putD, valK_cons, valK_nil, sortedAD, sortD, intsD, srtI, insI, sAsg, aTup, aCons, aNil, aName, keyD, c, c2]
    · obtain rfl : N = M := by omega
      rw [cf14]; unfold bd14; simp [sSeq, sIf, sRetX, sSetX, sPut, sDrop, sRetO_eq, sRetN, sPass, sNil, mBin, mVal, mOwnIx, mOwnIxA, mOwn, mC, mTB, mAnd, mOr, mNot, mCB, mCons, mNil, mTup, mIf, mFree, mCall, mCallO, mIsi, mTru, mUn, mAndV, mOrV, mNotV, mSl, mPart, mNoPart, mCW, mMth, mPop, mOwnL, mStrip, getV_eq, getO_eq, ownL, asB, asI, optO, fin1, fnD, settleX_nil, settleX_cons, settles_nil, settle_nil, settle1_nil, settle_cons, settle1_cons, settles_cons, frz, free, frees, free1, ltD, gtD, leD, geD, ordD, intOf, absD, lenD, lenA, listW, ixD, ixA, L2.atI, L2.ixN, addD, subD, modD, fdvD, powD, Dl.intD, negD, strip_eq, isOwn_eq, truthD, isiD, tyOf, isAny, kt0, kb_NoneType_bool, kb_NoneType_int, kb_NoneType_str, kb_NoneType_tuple, kb_NoneType_list, kb_NoneType_dict, kb_NoneType_float, kb_NoneType_set, kb_bool_bool, kb_bool_int, kb_bool_str, kb_bool_tuple, kb_bool_list, kb_bool_dict, kb_bool_float, kb_bool_set, kb_int_bool, kb_int_int, kb_int_str, kb_int_tuple, kb_int_list, kb_int_dict, kb_int_float, kb_int_set, kb_str_bool, kb_str_int, kb_str_str, kb_str_tuple, kb_str_list, kb_str_dict, kb_str_float, kb_str_set, kb_tuple_bool, kb_tuple_int, kb_tuple_str, kb_tuple_tuple, kb_tuple_list, kb_tuple_dict, kb_tuple_float, kb_tuple_set, kb_list_bool, kb_list_int, kb_list_str, kb_list_tuple, kb_list_list, kb_list_dict, kb_list_float, kb_list_set, kb_dict_bool, kb_dict_int, kb_dict_str, kb_dict_tuple, kb_dict_list, kb_dict_dict, kb_dict_float, kb_dict_set, PySem.sizeLine_eq, inS, notInS, inA, notInA, noDct, isInD, notInD, inB, flatD, eqF, eqD, neD, eqB, scalEq, isD, isNotD, isB, ofString_beq, ofString_inj, mChain, mAndV, mOrV, mNotV, mApp, kgI, nown, rown, e1, e3, oa, ob, mDisp, mergeD, putD, valK_cons, valK_nil, sortedAD, sortD, intsD, srtI, insI, sAsg, aTup, aCons, aNil, aName, keyD]
  · have c2 : ¬ M > N := by omega
    rw [cf14]; unfold bd14; simp [sSeq, sIf, sRetX, sSetX, sPut, sDrop, sRetO_eq, sRetN, sPass, sNil, mBin, mVal, mOwnIx, mOwnIxA, mOwn, mC, mTB, mAnd, mOr, mNot, mCB, mCons, mNil, mTup, mIf, mFree, mCall, mCallO, mIsi, mTru, mUn, mAndV, mOrV, mNotV, mSl, mPart, mNoPart, mCW, mMth, mPop, mOwnL, mStrip, getV_eq, getO_eq, ownL, asB, asI, optO, fin1, fnD, settleX_nil, settleX_cons, settles_nil, settle_nil, settle1_nil, settle_cons, settle1_cons, settles_cons, frz, free, frees, free1, ltD, gtD, leD, geD, ordD, intOf, absD, lenD, lenA, listW, ixD, ixA, L2.atI, L2.ixN, addD, subD, modD, fdvD, powD, Dl.intD, negD, strip_eq, isOwn_eq, truthD, isiD, tyOf, isAny, kt0, kb_NoneType_bool, kb_NoneType_int, kb_NoneType_str, kb_NoneType_tuple, kb_NoneType_list, kb_NoneType_dict, kb_NoneType_float, kb_NoneType_set, kb_bool_bool, kb_bool_int, kb_bool_str, kb_bool_tuple, kb_bool_list, kb_bool_dict, kb_bool_float, kb_bool_set, kb_int_bool, kb_int_int, kb_int_str, kb_int_tuple, kb_int_list, kb_int_dict, kb_int_float, kb_int_set, kb_str_bool, kb_str_int, kb_str_str, kb_str_tuple, kb_str_list, kb_str_dict, kb_str_float, kb_str_set, kb_tuple_bool, kb_tuple_int, kb_tuple_str, kb_tuple_tuple, kb_tuple_list, kb_tuple_dict, kb_tuple_float, kb_tuple_set, kb_list_bool, kb_list_int, kb_list_str, kb_list_tuple, kb_list_list, kb_list_dict, kb_list_float, kb_list_set, kb_dict_bool, kb_dict_int, kb_dict_str, kb_dict_tuple, kb_dict_list, kb_dict_dict, kb_dict_float, kb_dict_set, PySem.sizeLine_eq, inS, notInS, inA, notInA, noDct, isInD, notInD, inB, flatD, eqF, eqD, neD, eqB, scalEq, isD, isNotD, isB, ofString_beq, ofString_inj, mChain, mAndV, mOrV, mNotV, mApp, kgI, nown, rown, e1, e3, oa, ob, mDisp, mergeD, putD, valK_cons, valK_nil, sortedAD, sortD, intsD, srtI, insI, sAsg, aTup, aCons, aNil, aName, keyD, c, c2]
theorem numB_rest {n : Nat} {a b nums row : D} {N M : Int} (nown : isOwnD nums = false) (rown : isOwnD row = false) (oa : isOwnD a = false) (ob : isOwnD b = false)
    (e1 : callF n 14 [a, nums, row] = .ret (.int N) []) (e3 : callF n 14 [b, nums, row] = .ret (.int M) []) :
    callF (n + 1) 14 [.tup [.str "rest", a, b], nums, row] = .ret (.int (if N - M > 0 then N - M else 0)) [] := by
  by_cases c : N ≤ M
  · have c' : ¬ N - M > 0 := by omega
    have c3 : ¬ M < N := by omega
    rw [cf14]; unfold bd14; simp [sSeq, sIf, sRetX, sSetX, sPut, sDrop, sRetO_eq, sRetN, sPass, sNil, mBin, mVal, mOwnIx, mOwnIxA, mOwn, mC, mTB, mAnd, mOr, mNot, mCB, mCons, mNil, mTup, mIf, mFree, mCall, mCallO, mIsi, mTru, mUn, mAndV, mOrV, mNotV, mSl, mPart, mNoPart, mCW, mMth, mPop, mOwnL, mStrip, getV_eq, getO_eq, ownL, asB, asI, optO, fin1, fnD, settleX_nil, settleX_cons, settles_nil, settle_nil, settle1_nil, settle_cons, settle1_cons, settles_cons, frz, free, frees, free1, ltD, gtD, leD, geD, ordD, intOf, absD, lenD, lenA, listW, ixD, ixA, L2.atI, L2.ixN, addD, subD, modD, fdvD, powD, Dl.intD, negD, strip_eq, isOwn_eq, truthD, isiD, tyOf, isAny, kt0, kb_NoneType_bool, kb_NoneType_int, kb_NoneType_str, kb_NoneType_tuple, kb_NoneType_list, kb_NoneType_dict, kb_NoneType_float, kb_NoneType_set, kb_bool_bool, kb_bool_int, kb_bool_str, kb_bool_tuple, kb_bool_list, kb_bool_dict, kb_bool_float, kb_bool_set, kb_int_bool, kb_int_int, kb_int_str, kb_int_tuple, kb_int_list, kb_int_dict, kb_int_float, kb_int_set, kb_str_bool, kb_str_int, kb_str_str, kb_str_tuple, kb_str_list, kb_str_dict, kb_str_float, kb_str_set, kb_tuple_bool, kb_tuple_int, kb_tuple_str, kb_tuple_tuple, kb_tuple_list, kb_tuple_dict, kb_tuple_float, kb_tuple_set, kb_list_bool, kb_list_int, kb_list_str, kb_list_tuple, kb_list_list, kb_list_dict, kb_list_float, kb_list_set, kb_dict_bool, kb_dict_int, kb_dict_str, kb_dict_tuple, kb_dict_list, kb_dict_dict, kb_dict_float, kb_dict_set, PySem.sizeLine_eq, inS, notInS, inA, notInA, noDct, isInD, notInD, inB, flatD, eqF, eqD, neD, eqB, scalEq, isD, isNotD, isB, ofString_beq, ofString_inj, mChain, mAndV, mOrV, mNotV, mApp, kgI, nown, rown, e1, e3, oa, ob, mDisp, mergeD, putD, valK_cons, valK_nil, sortedAD, sortD, intsD, srtI, insI, sAsg, aTup, aCons, aNil, aName, keyD, c, c', c3]
  · have c' : N - M > 0 := by omega
    have c3 : M < N := by omega
    rw [cf14]; unfold bd14; simp [sSeq, sIf, sRetX, sSetX, sPut, sDrop, sRetO_eq, sRetN, sPass, sNil, mBin, mVal, mOwnIx, mOwnIxA, mOwn, mC, mTB, mAnd, mOr, mNot, mCB, mCons, mNil, mTup, mIf, mFree, mCall, mCallO, mIsi, mTru, mUn, mAndV, mOrV, mNotV, mSl, mPart, mNoPart, mCW, mMth, mPop, mOwnL, mStrip, getV_eq, getO_eq, ownL, asB, asI, optO, fin1, fnD, settleX_nil, settleX_cons, settles_nil, settle_nil, settle1_nil, settle_cons, settle1_cons, settles_cons, frz, free, frees, free1, ltD, gtD, leD, geD, ordD, intOf, absD, lenD, lenA, listW, ixD, ixA, L2.atI, L2.ixN, addD, subD, modD, fdvD, powD, Dl.intD, negD, strip_eq, isOwn_eq, truthD, isiD, tyOf, isAny, kt0, kb_NoneType_bool, kb_NoneType_int, kb_NoneType_str, kb_NoneType_tuple, kb_NoneType_list, kb_NoneType_dict, kb_NoneType_float, kb_NoneType_set, kb_bool_bool, kb_bool_int, kb_bool_str, kb_bool_tuple, kb_bool_list, kb_bool_dict, kb_bool_float, kb_bool_set, kb_int_bool, kb_int_int, kb_int_str, kb_int_tuple, kb_int_list, kb_int_dict, kb_int_float, kb_int_set, kb_str_bool, kb_str_int, kb_str_str, kb_str_tuple, kb_str_list, kb_str_dict, kb_str_float, kb_str_set, kb_tuple_bool, kb_tuple_int, kb_tuple_str, kb_tuple_tuple, kb_tuple_list, kb_tuple_dict, kb_tuple_float, kb_tuple_set, kb_list_bool, kb_list_int, kb_list_str, kb_list_tuple, kb_list_list, kb_list_dict, kb_list_float, kb_list_set, kb_dict_bool, kb_dict_int, kb_dict_str, kb_dict_tuple, kb_dict_list, kb_dict_dict, kb_dict_float, kb_dict_set, PySem.sizeLine_eq, inS, notInS, inA, notInA, noDct, isInD, notInD, inB, flatD, eqF, eqD, neD, eqB, scalEq, isD, isNotD, isB, ofString_beq, ofString_inj, mChain, mAndV, mOrV, mNotV, mApp, kgI, nown, rown, e1, e3, oa, ob, mDisp, mergeD, putD, valK_cons, valK_nil, sortedAD, sortD, intsD, srtI, insI, sAsg, aTup, aCons, aNil, aName, keyD, c, c', c3]
theorem numB_times {n : Nat} {a nums row z : D} {N M k : Int} (nown : isOwnD nums = false) (rown : isOwnD row = false) (oa : isOwnD a = false) (zo : isOwnD z = false)
    (e2 : callF n 14 [a, nums, row] = .ret (.int N) []) (mr : mulD (.lst [.int N]) (.int k) = some z) (sm : sumAD [z] = some (.int M)) :
    callF (n + 1) 14 [.tup [.str "times", a, .int k], nums, row] = .ret (.int M) [] := by
  rw [cf14]; unfold bd14; simp [sSeq, sIf, sRetX, sSetX, sPut, sDrop, sRetO_eq, sRetN, sPass, sNil, mBin, mVal, mOwnIx, mOwnIxA, mOwn, mC, mTB, mAnd, mOr, mNot, mCB, mCons, mNil, mTup, mIf, mFree, mCall, mCallO, mIsi, mTru, mUn, mAndV, mOrV, mNotV, mSl, mPart, mNoPart, mCW, mMth, mPop, mOwnL, mStrip, getV_eq, getO_eq, ownL, asB, asI, optO, fin1, fnD, settleX_nil, settleX_cons, settles_nil, settle_nil, settle1_nil, settle_cons, settle1_cons, settles_cons, frz, free, frees, free1, ltD, gtD, leD, geD, ordD, intOf, absD, lenD, lenA, listW, ixD, ixA, L2.atI, L2.ixN, addD, subD, modD, fdvD, powD, Dl.intD, negD, strip_eq, isOwn_eq, truthD, isiD, tyOf, isAny, kt0, kb_NoneType_bool, kb_NoneType_int, kb_NoneType_str, kb_NoneType_tuple, kb_NoneType_list, kb_NoneType_dict, kb_NoneType_float, kb_NoneType_set, kb_bool_bool, kb_bool_int, kb_bool_str, kb_bool_tuple, kb_bool_list, kb_bool_dict, kb_bool_float, kb_bool_set, kb_int_bool, kb_int_int, kb_int_str, kb_int_tuple, kb_int_list, kb_int_dict, kb_int_float, kb_int_set, kb_str_bool, kb_str_int, kb_str_str, kb_str_tuple, kb_str_list, kb_str_dict, kb_str_float, kb_str_set, kb_tuple_bool, kb_tuple_int, kb_tuple_str, kb_tuple_tuple, kb_tuple_list, kb_tuple_dict, kb_tuple_float, kb_tuple_set, kb_list_bool, kb_list_int, kb_list_str, kb_list_tuple, kb_list_list, kb_list_dict, kb_list_float, kb_list_set, kb_dict_bool, kb_dict_int, kb_dict_str, kb_dict_tuple, kb_dict_list, kb_dict_dict, kb_dict_float, kb_dict_set, PySem.sizeLine_eq, inS, notInS, inA, notInA, noDct, isInD, notInD, inB, flatD, eqF, eqD, neD, eqB, scalEq, isD, isNotD, isB, ofString_beq, ofString_inj, mChain, mAndV, mOrV, mNotV, mApp, kgI, nown, rown, e2, oa, mr, sm, zo]
theorem numA_times {n : Nat} {a nums row : D} {N M k : Int} (nown : isOwnD nums = false) (rown : isOwnD row = false) (oa : isOwnD a = false)
    (e1 : callF n 2 [a, nums, row] = .ret (.int N) []) (mu : mulD (.int k) (.int N) = some (.int M)) :
    callF (n + 1) 2 [.tup [.str "times", a, .int k], nums, row] = .ret (.int M) [] := by
  rw [cf2]; unfold bd2; simp [sSeq, sIf, sRetX, sSetX, sPut, sDrop, sRetO_eq, sRetN, sPass, sNil, mBin, mVal, mOwnIx, mOwnIxA, mOwn, mC, mTB, mAnd, mOr, mNot, mCB, mCons, mNil, mTup, mIf, mFree, mCall, mCallO, mIsi, mTru, mUn, mAndV, mOrV, mNotV, mSl, mPart, mNoPart, mCW, mMth, mPop, mOwnL, mStrip, getV_eq, getO_eq, ownL, asB, asI, optO, fin1, fnD, settleX_nil, settleX_cons, settles_nil, settle_nil, settle1_nil, settle_cons, settle1_cons, settles_cons, frz, free, frees, free1, ltD, gtD, leD, geD, ordD, intOf, absD, lenD, lenA, listW, ixD, ixA, L2.atI, L2.ixN, addD, subD, modD, fdvD, powD, Dl.intD, negD, strip_eq, isOwn_eq, truthD, isiD, tyOf, isAny, kt0, kb_NoneType_bool, kb_NoneType_int, kb_NoneType_str, kb_NoneType_tuple, kb_NoneType_list, kb_NoneType_dict, kb_NoneType_float, kb_NoneType_set, kb_bool_bool, kb_bool_int, kb_bool_str, kb_bool_tuple, kb_bool_list, kb_bool_dict, kb_bool_float, kb_bool_set, kb_int_bool, kb_int_int, kb_int_str, kb_int_tuple, kb_int_list, kb_int_dict, kb_int_float, kb_int_set, kb_str_bool, kb_str_int, kb_str_str, kb_str_tuple, kb_str_list, kb_str_dict, kb_str_float, kb_str_set, kb_tuple_bool, kb_tuple_int, kb_tuple_str, kb_tuple_tuple, kb_tuple_list, kb_tuple_dict, kb_tuple_float, kb_tuple_set, kb_list_bool, kb_list_int, kb_list_str, kb_list_tuple, kb_list_list, kb_list_dict, kb_list_float, kb_list_set, kb_dict_bool, kb_dict_int, kb_dict_str, kb_dict_tuple, kb_dict_list, kb_dict_dict, kb_dict_float, kb_dict_set, PySem.sizeLine_eq, inS, notInS, inA, notInA, noDct, isInD, notInD, inB, flatD, eqF, eqD, neD, eqB, scalEq, isD, isNotD, isB, ofString_beq, ofString_inj, mChain, mAndV, mOrV, mNotV, mApp, kgI, nown, rown, e1, oa, mu]
theorem times_facts {N : Int} {kn : Nat} (hk : kn ≤ 9) (hb : PySem.Builtin.Int.intBits N ≤ 100000) : mulD (.int (kn : Int)) (.int N) = some (.int (kn * N)) ∧ mulD (.lst [.int N]) (.int (kn : Int)) = some (.lst (List.replicate kn [D.int N]).flatten) ∧ sumAD [.lst (List.replicate kn [D.int N]).flatten] = some (.int (kn * N)) := by
  have mp : mulP (kn : Int) N = true := mulP_bits (by
    have b1 := intBits_lt (x := (kn : Int)) (k := 64) (by omega) (by omega)
    omega)
  refine ⟨mulD_int mp, mulD_rep (by simp; omega) (by omega), ?_⟩
  show (intsD _).map _ = _
  rw [rep_sum, Option.map_some, sum_rep]
abbrev wherI (b : Option Bool) (w : S) (N : Int) : Int := if (decide (b = some true) == decide (w = "where")) = true then N else 0
theorem numA_wher {n : Nat} {a t nums row : D} {N : Int} {b : Option Bool} {w : S} (hw : w ∈ (["where", "unless"] : List S)) (nown : isOwnD nums = false) (rown : isOwnD row = false) (oa : isOwnD a = false) (ot : isOwnD t = false)
    (e1 : callF n 2 [a, nums, row] = .ret (.int N) []) (e3 : callF n 0 [t, row] = .ret (tvD b) []) :
    callF (n + 1) 2 [.tup [.str w, a, t], nums, row] = .ret (.int (wherI b w N)) [] := by
  simp only [List.mem_cons, List.not_mem_nil, or_false] at hw
  rw [cf2]; unfold bd2
  rcases hw with rfl | rfl <;> rcases b with _ | _ | _ <;> simp only [tvD] at * <;> simp [sSeq, sIf, sRetX, sSetX, sPut, sDrop, sRetO_eq, sRetN, sPass, sNil, mBin, mVal, mOwnIx, mOwnIxA, mOwn, mC, mTB, mAnd, mOr, mNot, mCB, mCons, mNil, mTup, mIf, mFree, mCall, mCallO, mIsi, mTru, mUn, mAndV, mOrV, mNotV, mSl, mPart, mNoPart, mCW, mMth, mPop, mOwnL, mStrip, getV_eq, getO_eq, ownL, asB, asI, optO, fin1, fnD, settleX_nil, settleX_cons, settles_nil, settle_nil, settle1_nil, settle_cons, settle1_cons, settles_cons, frz, free, frees, free1, ltD, gtD, leD, geD, ordD, intOf, absD, lenD, lenA, listW, ixD, ixA, L2.atI, L2.ixN, addD, subD, modD, fdvD, powD, Dl.intD, negD, strip_eq, isOwn_eq, truthD, isiD, tyOf, isAny, kt0, kb_NoneType_bool, kb_NoneType_int, kb_NoneType_str, kb_NoneType_tuple, kb_NoneType_list, kb_NoneType_dict, kb_NoneType_float, kb_NoneType_set, kb_bool_bool, kb_bool_int, kb_bool_str, kb_bool_tuple, kb_bool_list, kb_bool_dict, kb_bool_float, kb_bool_set, kb_int_bool, kb_int_int, kb_int_str, kb_int_tuple, kb_int_list, kb_int_dict, kb_int_float, kb_int_set, kb_str_bool, kb_str_int, kb_str_str, kb_str_tuple, kb_str_list, kb_str_dict, kb_str_float, kb_str_set, kb_tuple_bool, kb_tuple_int, kb_tuple_str, kb_tuple_tuple, kb_tuple_list, kb_tuple_dict, kb_tuple_float, kb_tuple_set, kb_list_bool, kb_list_int, kb_list_str, kb_list_tuple, kb_list_list, kb_list_dict, kb_list_float, kb_list_set, kb_dict_bool, kb_dict_int, kb_dict_str, kb_dict_tuple, kb_dict_list, kb_dict_dict, kb_dict_float, kb_dict_set, PySem.sizeLine_eq, inS, notInS, inA, notInA, noDct, isInD, notInD, inB, flatD, eqF, eqD, neD, eqB, scalEq, isD, isNotD, isB, ofString_beq, ofString_inj, mChain, mAndV, mOrV, mNotV, mApp, kgI, nown, rown, e1, e3, oa, ot]
theorem numB_wher {n : Nat} {a t nums row : D} {N : Int} {b : Option Bool} {w : S} (hw : w ∈ (["where", "unless"] : List S)) (nown : isOwnD nums = false) (rown : isOwnD row = false) (oa : isOwnD a = false) (ot : isOwnD t = false)
    (e2 : callF n 14 [a, nums, row] = .ret (.int N) []) (e4 : callF n 13 [t, row] = .ret (tvD b) []) :
    callF (n + 1) 14 [.tup [.str w, a, t], nums, row] = .ret (.int (wherI b w N)) [] := by
  have r0 : reprD [D.non] = some (.str "None") := by rfl
  have r1 : reprD [D.bl true] = some (.str "True") := by rfl
  have r2 : reprD [D.bl false] = some (.str "False") := by rfl
  simp only [List.mem_cons, List.not_mem_nil, or_false] at hw
  rw [cf14]; unfold bd14
  rcases hw with rfl | rfl <;> rcases b with _ | _ | _ <;> simp only [tvD] at * <;> simp [sSeq, sIf, sRetX, sSetX, sPut, sDrop, sRetO_eq, sRetN, sPass, sNil, mBin, mVal, mOwnIx, mOwnIxA, mOwn, mC, mTB, mAnd, mOr, mNot, mCB, mCons, mNil, mTup, mIf, mFree, mCall, mCallO, mIsi, mTru, mUn, mAndV, mOrV, mNotV, mSl, mPart, mNoPart, mCW, mMth, mPop, mOwnL, mStrip, getV_eq, getO_eq, ownL, asB, asI, optO, fin1, fnD, settleX_nil, settleX_cons, settles_nil, settle_nil, settle1_nil, settle_cons, settle1_cons, settles_cons, frz, free, frees, free1, ltD, gtD, leD, geD, ordD, intOf, absD, lenD, lenA, listW, ixD, ixA, L2.atI, L2.ixN, addD, subD, modD, fdvD, powD, Dl.intD, negD, strip_eq, isOwn_eq, truthD, isiD, tyOf, isAny, kt0, kb_NoneType_bool, kb_NoneType_int, kb_NoneType_str, kb_NoneType_tuple, kb_NoneType_list, kb_NoneType_dict, kb_NoneType_float, kb_NoneType_set, kb_bool_bool, kb_bool_int, kb_bool_str, kb_bool_tuple, kb_bool_list, kb_bool_dict, kb_bool_float, kb_bool_set, kb_int_bool, kb_int_int, kb_int_str, kb_int_tuple, kb_int_list, kb_int_dict, kb_int_float, kb_int_set, kb_str_bool, kb_str_int, kb_str_str, kb_str_tuple, kb_str_list, kb_str_dict, kb_str_float, kb_str_set, kb_tuple_bool, kb_tuple_int, kb_tuple_str, kb_tuple_tuple, kb_tuple_list, kb_tuple_dict, kb_tuple_float, kb_tuple_set, kb_list_bool, kb_list_int, kb_list_str, kb_list_tuple, kb_list_list, kb_list_dict, kb_list_float, kb_list_set, kb_dict_bool, kb_dict_int, kb_dict_str, kb_dict_tuple, kb_dict_list, kb_dict_dict, kb_dict_float, kb_dict_set, PySem.sizeLine_eq, inS, notInS, inA, notInA, noDct, isInD, notInD, inB, flatD, eqF, eqD, neD, eqB, scalEq, isD, isNotD, isB, ofString_beq, ofString_inj, mChain, mAndV, mOrV, mNotV, mApp, kgI, nown, rown, e2, e4, oa, ot, r0, r1, r2]
end Lw
set_option maxHeartbeats 0
/-! L04b: k04, numbers. -/
namespace Lw
open Dl
variable {cols names : List S}
theorem CntOk.own {l : List S} {t : D} (h : CntOk l t) : isOwnD t = false := by obtain ⟨l, rfl, _⟩ := h; rfl
theorem RowOk.own {l : List S} {t : D} (h : RowOk l t) : isOwnD t = false := by obtain ⟨l, rfl, _⟩ := h; rfl
/-- one step of both reckonings, from the parts' numbers (the first by one question, the other by another one) -/
theorem step_pair {w : S} (hw : w ∈ (["plus", "both", "either", "rest"] : List S)) (N M : Int) (n0 : 0 ≤ N) (m0 : 0 ≤ M) : ∃ Z : Int, 0 ≤ Z ∧ Z.natAbs ≤ N.natAbs + M.natAbs ∧
    (∀ (n : Nat) (a b nums row : D), isOwnD nums = false → isOwnD row = false → isOwnD a = false → isOwnD b = false → callF n 2 [a, nums, row] = .ret (.int N) [] → callF n 2 [b, nums, row] = .ret (.int M) [] → callF (n + 1) 2 [.tup [.str w, a, b], nums, row] = .ret (.int Z) []) ∧
    (∀ (n : Nat) (a b nums row : D), isOwnD nums = false → isOwnD row = false → isOwnD a = false → isOwnD b = false → callF n 14 [a, nums, row] = .ret (.int N) [] → callF n 14 [b, nums, row] = .ret (.int M) [] → callF (n + 1) 14 [.tup [.str w, a, b], nums, row] = .ret (.int Z) []) := by
  simp only [List.mem_cons, List.not_mem_nil, or_false] at hw
  rcases hw with rfl | rfl | rfl | rfl
  · exact ⟨N + M, by omega, by omega, fun n a b nums row h1 h2 h3 h4 e1 e2 => numA_plus h1 h2 h3 h4 e1 e2, fun n a b nums row h1 h2 h3 h4 e1 e2 => numB_plus h1 h2 h3 h4 e1 e2⟩
  · exact ⟨if M < N then M else N, by split <;> omega, by split <;> omega, fun n a b nums row h1 h2 h3 h4 e1 e2 => numA_both h1 h2 h3 h4 e1 e2, fun n a b nums row h1 h2 h3 h4 e1 e2 => numB_both h1 h2 h3 h4 e1 e2⟩
  · exact ⟨if M > N then M else N, by split <;> omega, by split <;> omega, fun n a b nums row h1 h2 h3 h4 e1 e2 => numA_either h1 h2 h3 h4 e1 e2, fun n a b nums row h1 h2 h3 h4 e1 e2 => numB_either h1 h2 h3 h4 e1 e2⟩
  · exact ⟨if N - M > 0 then N - M else 0, by split <;> omega, by split <;> omega, fun n a b nums row h1 h2 h3 h4 e1 e2 => numA_rest h1 h2 h3 h4 e1 e2, fun n a b nums row h1 h2 h3 h4 e1 e2 => numB_rest h1 h2 h3 h4 e1 e2⟩
theorem step_times {kn : Nat} (hk : kn ≤ 9) (N : Int) (n0 : 0 ≤ N) (hb : PySem.Builtin.Int.intBits N ≤ 100000) : ∃ Z : Int, 0 ≤ Z ∧ Z.natAbs ≤ 9 * N.natAbs ∧
    (∀ (n : Nat) (a nums row : D), isOwnD nums = false → isOwnD row = false → isOwnD a = false → callF n 2 [a, nums, row] = .ret (.int N) [] → callF (n + 1) 2 [.tup [.str "times", a, .int kn], nums, row] = .ret (.int Z) []) ∧
    (∀ (n : Nat) (a nums row : D), isOwnD nums = false → isOwnD row = false → isOwnD a = false → callF n 14 [a, nums, row] = .ret (.int N) [] → callF (n + 1) 14 [.tup [.str "times", a, .int kn], nums, row] = .ret (.int Z) []) := by
  obtain ⟨f1, f2, f3⟩ := times_facts hk hb
  refine ⟨kn * N, Int.mul_nonneg (by omega) n0, ?_, fun n a nums row h1 h2 h3 e => numA_times h1 h2 h3 e f1, fun n a nums row h1 h2 h3 e => numB_times h1 h2 h3 rfl e f2 f3⟩
  have kb : kn = 0 ∨ kn = 1 ∨ kn = 2 ∨ kn = 3 ∨ kn = 4 ∨ kn = 5 ∨ kn = 6 ∨ kn = 7 ∨ kn = 8 ∨ kn = 9 := by omega
  clear f1 f2 f3 hb
  rcases kb with rfl | rfl | rfl | rfl | rfl | rfl | rfl | rfl | rfl | rfl <;> omega
theorem number_eq {row nums : D} (r : RowOk cols row) (cn : CntOk names nums) {q : D} {s d m : Nat} (h : QT names cols q s d m) : m ≤ 1000 → ∃ N : Int, 0 ≤ N ∧ N.natAbs < 2 ^ (67 + 4 * m) ∧ ∀ n, d + 5 ≤ n →
    callF n 2 [q, nums, row] = .ret (.int N) [] ∧ callF n 14 [q, nums, row] = .ret (.int N) [] := by
  have nown := cn.own
  have rown := r.own
  induction h with
  | none =>
    refine fun _ => ⟨0, by omega, Nat.two_pow_pos _, fun n hn => ?_⟩
    obtain ⟨j, rfl⟩ : ∃ j, n = j + 1 := ⟨n - 1, by omega⟩
    constructor
    · rw [cf2]; unfold bd2; simp [sSeq, sIf, sRetX, sSetX, sPut, sDrop, sRetO_eq, sRetN, sPass, sNil, mBin, mVal, mOwnIx, mOwnIxA, mOwn, mC, mTB, mAnd, mOr, mNot, mCB, mCons, mNil, mTup, mIf, mFree, mCall, mCallO, mIsi, mTru, mUn, mAndV, mOrV, mNotV, mSl, mPart, mNoPart, mCW, mMth, mPop, mOwnL, mStrip, getV_eq, getO_eq, ownL, asB, asI, optO, fin1, fnD, settleX_nil, settleX_cons, settles_nil, settle_nil, settle1_nil, settle_cons, settle1_cons, settles_cons, frz, free, frees, free1, ltD, gtD, leD, geD, ordD, intOf, absD, lenD, lenA, listW, ixD, ixA, L2.atI, L2.ixN, addD, subD, modD, fdvD, powD, Dl.intD, negD, strip_eq, isOwn_eq, truthD, isiD, tyOf, isAny, kt0, kb_NoneType_bool, kb_NoneType_int, kb_NoneType_str, kb_NoneType_tuple, kb_NoneType_list, kb_NoneType_dict, kb_NoneType_float, kb_NoneType_set, kb_bool_bool, kb_bool_int, kb_bool_str, kb_bool_tuple, kb_bool_list, kb_bool_dict, kb_bool_float, kb_bool_set, kb_int_bool, kb_int_int, kb_int_str, kb_int_tuple, kb_int_list, kb_int_dict, kb_int_float, kb_int_set, kb_str_bool, kb_str_int, kb_str_str, kb_str_tuple, kb_str_list, kb_str_dict, kb_str_float, kb_str_set, kb_tuple_bool, kb_tuple_int, kb_tuple_str, kb_tuple_tuple, kb_tuple_list, kb_tuple_dict, kb_tuple_float, kb_tuple_set, kb_list_bool, kb_list_int, kb_list_str, kb_list_tuple, kb_list_list, kb_list_dict, kb_list_float, kb_list_set, kb_dict_bool, kb_dict_int, kb_dict_str, kb_dict_tuple, kb_dict_list, kb_dict_dict, kb_dict_float, kb_dict_set, PySem.sizeLine_eq, inS, notInS, inA, notInA, noDct, isInD, notInD, inB, flatD, eqF, eqD, neD, eqB, scalEq, isD, isNotD, isB, ofString_beq, ofString_inj, mChain, mAndV, mOrV, mNotV, mApp, kgI, nown, rown]
    · rw [cf14]; unfold bd14; simp [sSeq, sIf, sRetX, sSetX, sPut, sDrop, sRetO_eq, sRetN, sPass, sNil, mBin, mVal, mOwnIx, mOwnIxA, mOwn, mC, mTB, mAnd, mOr, mNot, mCB, mCons, mNil, mTup, mIf, mFree, mCall, mCallO, mIsi, mTru, mUn, mAndV, mOrV, mNotV, mSl, mPart, mNoPart, mCW, mMth, mPop, mOwnL, mStrip, getV_eq, getO_eq, ownL, asB, asI, optO, fin1, fnD, settleX_nil, settleX_cons, settles_nil, settle_nil, settle1_nil, settle_cons, settle1_cons, settles_cons, frz, free, frees, free1, ltD, gtD, leD, geD, ordD, intOf, absD, lenD, lenA, listW, ixD, ixA, L2.atI, L2.ixN, addD, subD, modD, fdvD, powD, Dl.intD, negD, strip_eq, isOwn_eq, truthD, isiD, tyOf, isAny, kt0, kb_NoneType_bool, kb_NoneType_int, kb_NoneType_str, kb_NoneType_tuple, kb_NoneType_list, kb_NoneType_dict, kb_NoneType_float, kb_NoneType_set, kb_bool_bool, kb_bool_int, kb_bool_str, kb_bool_tuple, kb_bool_list, kb_bool_dict, kb_bool_float, kb_bool_set, kb_int_bool, kb_int_int, kb_int_str, kb_int_tuple, kb_int_list, kb_int_dict, kb_int_float, kb_int_set, kb_str_bool, kb_str_int, kb_str_str, kb_str_tuple, kb_str_list, kb_str_dict, kb_str_float, kb_str_set, kb_tuple_bool, kb_tuple_int, kb_tuple_str, kb_tuple_tuple, kb_tuple_list, kb_tuple_dict, kb_tuple_float, kb_tuple_set, kb_list_bool, kb_list_int, kb_list_str, kb_list_tuple, kb_list_list, kb_list_dict, kb_list_float, kb_list_set, kb_dict_bool, kb_dict_int, kb_dict_str, kb_dict_tuple, kb_dict_list, kb_dict_dict, kb_dict_float, kb_dict_set, PySem.sizeLine_eq, inS, notInS, inA, notInA, noDct, isInD, notInD, inB, flatD, eqF, eqD, neD, eqB, scalEq, isD, isNotD, isB, ofString_beq, ofString_inj, mChain, mAndV, mOrV, mNotV, mApp, kgI, nown, rown]
  | @of t ht =>
    obtain ⟨l, rfl, hl⟩ := cn
    obtain ⟨i, e, h0, h1⟩ := hl t ht
    refine fun _ => ⟨i, h0, Nat.lt_of_lt_of_le h1 (Nat.pow_le_pow_right (by omega) (by omega)), fun n hn => ?_⟩
    obtain ⟨j, rfl⟩ : ∃ j, n = j + 1 := ⟨n - 1, by omega⟩
    constructor
    · rw [cf2]; unfold bd2; simp [sSeq, sIf, sRetX, sSetX, sPut, sDrop, sRetO_eq, sRetN, sPass, sNil, mBin, mVal, mOwnIx, mOwnIxA, mOwn, mC, mTB, mAnd, mOr, mNot, mCB, mCons, mNil, mTup, mIf, mFree, mCall, mCallO, mIsi, mTru, mUn, mAndV, mOrV, mNotV, mSl, mPart, mNoPart, mCW, mMth, mPop, mOwnL, mStrip, getV_eq, getO_eq, ownL, asB, asI, optO, fin1, fnD, settleX_nil, settleX_cons, settles_nil, settle_nil, settle1_nil, settle_cons, settle1_cons, settles_cons, frz, free, frees, free1, ltD, gtD, leD, geD, ordD, intOf, absD, lenD, lenA, listW, ixD, ixA, L2.atI, L2.ixN, addD, subD, modD, fdvD, powD, Dl.intD, negD, strip_eq, isOwn_eq, truthD, isiD, tyOf, isAny, kt0, kb_NoneType_bool, kb_NoneType_int, kb_NoneType_str, kb_NoneType_tuple, kb_NoneType_list, kb_NoneType_dict, kb_NoneType_float, kb_NoneType_set, kb_bool_bool, kb_bool_int, kb_bool_str, kb_bool_tuple, kb_bool_list, kb_bool_dict, kb_bool_float, kb_bool_set, kb_int_bool, kb_int_int, kb_int_str, kb_int_tuple, kb_int_list, kb_int_dict, kb_int_float, kb_int_set, kb_str_bool, kb_str_int, kb_str_str, kb_str_tuple, kb_str_list, kb_str_dict, kb_str_float, kb_str_set, kb_tuple_bool, kb_tuple_int, kb_tuple_str, kb_tuple_tuple, kb_tuple_list, kb_tuple_dict, kb_tuple_float, kb_tuple_set, kb_list_bool, kb_list_int, kb_list_str, kb_list_tuple, kb_list_list, kb_list_dict, kb_list_float, kb_list_set, kb_dict_bool, kb_dict_int, kb_dict_str, kb_dict_tuple, kb_dict_list, kb_dict_dict, kb_dict_float, kb_dict_set, PySem.sizeLine_eq, inS, notInS, inA, notInA, noDct, isInD, notInD, inB, flatD, eqF, eqD, neD, eqB, scalEq, isD, isNotD, isB, ofString_beq, ofString_inj, mChain, mAndV, mOrV, mNotV, mApp, kgI, nown, rown, keyD, e]
    · rw [cf14]; unfold bd14; simp [sSeq, sIf, sRetX, sSetX, sPut, sDrop, sRetO_eq, sRetN, sPass, sNil, mBin, mVal, mOwnIx, mOwnIxA, mOwn, mC, mTB, mAnd, mOr, mNot, mCB, mCons, mNil, mTup, mIf, mFree, mCall, mCallO, mIsi, mTru, mUn, mAndV, mOrV, mNotV, mSl, mPart, mNoPart, mCW, mMth, mPop, mOwnL, mStrip, getV_eq, getO_eq, ownL, asB, asI, optO, fin1, fnD, settleX_nil, settleX_cons, settles_nil, settle_nil, settle1_nil, settle_cons, settle1_cons, settles_cons, frz, free, frees, free1, ltD, gtD, leD, geD, ordD, intOf, absD, lenD, lenA, listW, ixD, ixA, L2.atI, L2.ixN, addD, subD, modD, fdvD, powD, Dl.intD, negD, strip_eq, isOwn_eq, truthD, isiD, tyOf, isAny, kt0, kb_NoneType_bool, kb_NoneType_int, kb_NoneType_str, kb_NoneType_tuple, kb_NoneType_list, kb_NoneType_dict, kb_NoneType_float, kb_NoneType_set, kb_bool_bool, kb_bool_int, kb_bool_str, kb_bool_tuple, kb_bool_list, kb_bool_dict, kb_bool_float, kb_bool_set, kb_int_bool, kb_int_int, kb_int_str, kb_int_tuple, kb_int_list, kb_int_dict, kb_int_float, kb_int_set, kb_str_bool, kb_str_int, kb_str_str, kb_str_tuple, kb_str_list, kb_str_dict, kb_str_float, kb_str_set, kb_tuple_bool, kb_tuple_int, kb_tuple_str, kb_tuple_tuple, kb_tuple_list, kb_tuple_dict, kb_tuple_float, kb_tuple_set, kb_list_bool, kb_list_int, kb_list_str, kb_list_tuple, kb_list_list, kb_list_dict, kb_list_float, kb_list_set, kb_dict_bool, kb_dict_int, kb_dict_str, kb_dict_tuple, kb_dict_list, kb_dict_dict, kb_dict_float, kb_dict_set, PySem.sizeLine_eq, inS, notInS, inA, notInA, noDct, isInD, notInD, inB, flatD, eqF, eqD, neD, eqB, scalEq, isD, isNotD, isB, ofString_beq, ofString_inj, mChain, mAndV, mOrV, mNotV, mApp, kgI, nown, rown, keyD, e]
  | @pair a b w s s' d d' m m' hw ha hb ia ib =>
    intro hm
    obtain ⟨N, n0, n1, hN⟩ := ia (by omega)
    obtain ⟨M, m0, m1, hM⟩ := ib (by omega)
    have c1 := cap_le (a := m) (b := m + m') (by omega)
    have c2 := cap_le (a := m') (b := m + m') (by omega)
    have c3 := cap_r (a := m) (b := m')
    obtain ⟨Z, z0, z1, zA, zB⟩ := step_pair hw N M n0 m0
    refine ⟨Z, z0, ?_, fun n hn => ?_⟩
    · revert n1 m1 c1 c2 c3
      generalize 2 ^ (67 + 4 * m) = A
      generalize 2 ^ (67 + 4 * m') = B
      generalize 2 ^ (67 + 4 * (1 + (m + m'))) = C
      generalize 2 ^ (67 + 4 * (m + m')) = Y
      intro n1 m1 c1 c2 c3
      omega
    · obtain ⟨j, rfl⟩ : ∃ j, n = j + 1 := ⟨n - 1, by omega⟩
      exact ⟨zA j a b nums row nown rown ha.own hb.own (hN j (by omega)).1 (hM j (by omega)).1, zB j a b nums row nown rown ha.own hb.own (hN j (by omega)).2 (hM j (by omega)).2⟩
  | @times a k s d m ha h0 h9 ia =>
    intro hm
    obtain ⟨N, n0, n1, hN⟩ := ia (by omega)
    obtain ⟨kn, rfl⟩ := Int.eq_ofNat_of_zero_le h0
    have big : PySem.Builtin.Int.intBits N ≤ 100000 := Nat.le_trans (intBits_lt n1 (by omega)) (by omega)
    have c3 := cap_16 m
    obtain ⟨Z, z0, z1, zA, zB⟩ := step_times (kn := kn) (by omega) N n0 big
    refine ⟨Z, z0, ?_, fun n hn => ?_⟩
    · revert n1 c3
      generalize 2 ^ (67 + 4 * (1 + m)) = C
      generalize 2 ^ (67 + 4 * m) = Y
      intro n1 c3
      omega
    · obtain ⟨j, rfl⟩ : ∃ j, n = j + 1 := ⟨n - 1, by omega⟩
      exact ⟨zA j a nums row nown rown ha.own (hN j (by omega)).1, zB j a nums row nown rown ha.own (hN j (by omega)).2⟩
  | @wher a t w s s' d d' m m' hw ha ht ia =>
    intro hm
    obtain ⟨N, n0, n1, hN⟩ := ia (by omega)
    obtain ⟨b, hb⟩ := truth_eq r ht
    have c1 := cap_le (a := m) (b := m + m') (by omega)
    have c3 := cap_r (a := m) (b := m')
    refine ⟨wherI b w N, by unfold wherI; split <;> omega, ?_, fun n hn => ?_⟩
    · revert n1 c1 c3
      generalize 2 ^ (67 + 4 * m) = A
      generalize 2 ^ (67 + 4 * (1 + (m + m'))) = C
      generalize 2 ^ (67 + 4 * (m + m')) = Y
      intro n1 c1 c3
      unfold wherI
      split <;> omega
    · obtain ⟨j, rfl⟩ : ∃ j, n = j + 1 := ⟨n - 1, by omega⟩
      exact ⟨numA_wher hw nown rown ha.own ht.own (hN j (by omega)).1 (hb j (by omega)).1, numB_wher hw nown rown ha.own ht.own (hN j (by omega)).2 (hb j (by omega)).2⟩
end Lw
set_option maxHeartbeats 0
/-! L04r: k04, what stands in their place. -/
namespace Lw
open Dl
variable {cols names tb : List S}
def tstL : D := .lst [.str "less", .str "most", .str "equal", .str "null", .str "not", .str "and", .str "or"]
theorem QT.head {v : D} {s d m : Nat} (q : QT names cols v s d m) : ∃ (w : S) (l : List D), v = .tup (.str w :: l) ∧ notInA (.str w) tstL = some (.bl true) := by
  have key : ∀ w ∈ (["none", "of", "plus", "both", "either", "rest", "times", "where", "unless"] : List S), notInA (.str w) tstL = some (.bl true) := by
    intro w hw
    simp only [List.mem_cons, List.not_mem_nil, or_false] at hw
    rcases hw with rfl | rfl | rfl | rfl | rfl | rfl | rfl | rfl | rfl <;> kernel_rfl
  cases q with
  | none => exact ⟨_, _, rfl, key _ (by simp)⟩
  | of ht => exact ⟨_, _, rfl, key _ (by simp)⟩
  | pair hw ha hb =>
    refine ⟨_, _, rfl, key _ ?_⟩
    simp only [List.mem_cons, List.not_mem_nil, or_false] at hw ⊢
    rcases hw with h | h | h | h <;> simp [h]
  | times ha h0 h9 => exact ⟨_, _, rfl, key _ (by simp)⟩
  | wher hw ha ht =>
    refine ⟨_, _, rfl, key _ ?_⟩
    simp only [List.mem_cons, List.not_mem_nil, or_false] at hw ⊢
    rcases hw with h | h <;> simp [h]
theorem TT.head {v : D} {s d m : Nat} (q : TT cols v s d m) : ∃ (w : S) (l : List D), v = .tup (.str w :: l) ∧ notInA (.str w) tstL = some (.bl false) := by
  have key : ∀ w ∈ (["less", "most", "equal", "null", "not", "and", "or"] : List S), notInA (.str w) tstL = some (.bl false) := by
    intro w hw
    simp only [List.mem_cons, List.not_mem_nil, or_false] at hw
    rcases hw with rfl | rfl | rfl | rfl | rfl | rfl | rfl <;> kernel_rfl
  cases q with
  | cmp hw hc h1 h2 =>
    refine ⟨_, _, rfl, key _ ?_⟩
    simp only [List.mem_cons, List.not_mem_nil, or_false] at hw ⊢
    rcases hw with h | h | h <;> simp [h]
  | nul hc => exact ⟨_, _, rfl, key _ (by simp)⟩
  | not ht => exact ⟨_, _, rfl, key _ (by simp)⟩
  | bin hw ha hb =>
    refine ⟨_, _, rfl, key _ ?_⟩
    simp only [List.mem_cons, List.not_mem_nil, or_false] at hw ⊢
    rcases hw with h | h <;> simp [h]
theorem QT.mono {names names' : List S} (hs : ∀ t ∈ names, t ∈ names') {v : D} {s d m : Nat} (q : QT names cols v s d m) : QT names' cols v s d m := by
  induction q with
  | none => exact .none
  | of ht => exact .of (hs _ ht)
  | pair hw _ _ ia ib => exact .pair hw ia ib
  | times _ h0 h9 ia => exact .times ia h0 h9
  | wher hw _ ht ia => exact .wher hw ia ht
/-! one step of both puttings -/
theorem rA_pair {n : Nat} {a b a' b' kn : D} {w : S} (hw : w ∈ (["plus", "both", "either", "rest"] : List S)) (ko : isOwnD kn = false) (oa : isOwnD a = false) (ob : isOwnD b = false) (oa' : isOwnD a' = false) (ob' : isOwnD b' = false)
    (e1 : callF n 4 [a, kn] = .ret a' []) (e2 : callF n 4 [b, kn] = .ret b' []) : callF (n + 1) 4 [.tup [.str w, a, b], kn] = .ret (.tup [.str w, a', b']) [] := by
  simp only [List.mem_cons, List.not_mem_nil, or_false] at hw
  rw [cf4]; unfold bd4
  rcases hw with rfl | rfl | rfl | rfl <;> simp [sSeq, sIf, sRetX, sSetX, sPut, sDrop, sRetO_eq, sRetN, sPass, sNil, mBin, mVal, mOwnIx, mOwnIxA, mOwn, mC, mTB, mAnd, mOr, mNot, mCB, mCons, mNil, mTup, mIf, mFree, mCall, mCallO, mIsi, mTru, mUn, mAndV, mOrV, mNotV, mSl, mPart, mNoPart, mCW, mMth, mPop, mOwnL, mStrip, getV_eq, getO_eq, ownL, asB, asI, optO, fin1, fnD, settleX_nil, settleX_cons, settles_nil, settle_nil, settle1_nil, settle_cons, settle1_cons, settles_cons, frz, free, frees, free1, ltD, gtD, leD, geD, ordD, intOf, absD, lenD, lenA, listW, ixD, ixA, L2.atI, L2.ixN, addD, subD, modD, fdvD, powD, Dl.intD, negD, strip_eq, isOwn_eq, truthD, isiD, tyOf, isAny, kt0, kb_NoneType_bool, kb_NoneType_int, kb_NoneType_str, kb_NoneType_tuple, kb_NoneType_list, kb_NoneType_dict, kb_NoneType_float, kb_NoneType_set, kb_bool_bool, kb_bool_int, kb_bool_str, kb_bool_tuple, kb_bool_list, kb_bool_dict, kb_bool_float, kb_bool_set, kb_int_bool, kb_int_int, kb_int_str, kb_int_tuple, kb_int_list, kb_int_dict, kb_int_float, kb_int_set, kb_str_bool, kb_str_int, kb_str_str, kb_str_tuple, kb_str_list, kb_str_dict, kb_str_float, kb_str_set, kb_tuple_bool, kb_tuple_int, kb_tuple_str, kb_tuple_tuple, kb_tuple_list, kb_tuple_dict, kb_tuple_float, kb_tuple_set, kb_list_bool, kb_list_int, kb_list_str, kb_list_tuple, kb_list_list, kb_list_dict, kb_list_float, kb_list_set, kb_dict_bool, kb_dict_int, kb_dict_str, kb_dict_tuple, kb_dict_list, kb_dict_dict, kb_dict_float, kb_dict_set, PySem.sizeLine_eq, inS, notInS, inA, notInA, noDct, isInD, notInD, inB, flatD, eqF, eqD, neD, eqB, scalEq, isD, isNotD, isB, ofString_beq, ofString_inj, mChain, mAndV, mOrV, mNotV, mApp, kgI, ko, oa, ob, oa', ob', e1, e2]
theorem rA_times {n : Nat} {a a' kn k : D} (ko : isOwnD kn = false) (oa : isOwnD a = false) (oa' : isOwnD a' = false) (ok : isOwnD k = false)
    (e1 : callF n 4 [a, kn] = .ret a' []) : callF (n + 1) 4 [.tup [.str "times", a, k], kn] = .ret (.tup [.str "times", a', k]) [] := by
  rw [cf4]; unfold bd4
  simp [sSeq, sIf, sRetX, sSetX, sPut, sDrop, sRetO_eq, sRetN, sPass, sNil, mBin, mVal, mOwnIx, mOwnIxA, mOwn, mC, mTB, mAnd, mOr, mNot, mCB, mCons, mNil, mTup, mIf, mFree, mCall, mCallO, mIsi, mTru, mUn, mAndV, mOrV, mNotV, mSl, mPart, mNoPart, mCW, mMth, mPop, mOwnL, mStrip, getV_eq, getO_eq, ownL, asB, asI, optO, fin1, fnD, settleX_nil, settleX_cons, settles_nil, settle_nil, settle1_nil, settle_cons, settle1_cons, settles_cons, frz, free, frees, free1, ltD, gtD, leD, geD, ordD, intOf, absD, lenD, lenA, listW, ixD, ixA, L2.atI, L2.ixN, addD, subD, modD, fdvD, powD, Dl.intD, negD, strip_eq, isOwn_eq, truthD, isiD, tyOf, isAny, kt0, kb_NoneType_bool, kb_NoneType_int, kb_NoneType_str, kb_NoneType_tuple, kb_NoneType_list, kb_NoneType_dict, kb_NoneType_float, kb_NoneType_set, kb_bool_bool, kb_bool_int, kb_bool_str, kb_bool_tuple, kb_bool_list, kb_bool_dict, kb_bool_float, kb_bool_set, kb_int_bool, kb_int_int, kb_int_str, kb_int_tuple, kb_int_list, kb_int_dict, kb_int_float, kb_int_set, kb_str_bool, kb_str_int, kb_str_str, kb_str_tuple, kb_str_list, kb_str_dict, kb_str_float, kb_str_set, kb_tuple_bool, kb_tuple_int, kb_tuple_str, kb_tuple_tuple, kb_tuple_list, kb_tuple_dict, kb_tuple_float, kb_tuple_set, kb_list_bool, kb_list_int, kb_list_str, kb_list_tuple, kb_list_list, kb_list_dict, kb_list_float, kb_list_set, kb_dict_bool, kb_dict_int, kb_dict_str, kb_dict_tuple, kb_dict_list, kb_dict_dict, kb_dict_float, kb_dict_set, PySem.sizeLine_eq, inS, notInS, inA, notInA, noDct, isInD, notInD, inB, flatD, eqF, eqD, neD, eqB, scalEq, isD, isNotD, isB, ofString_beq, ofString_inj, mChain, mAndV, mOrV, mNotV, mApp, kgI, ko, oa, oa', ok, e1]
theorem rA_wher {n : Nat} {a a' kn t : D} {w : S} (hw : w ∈ (["where", "unless"] : List S)) (ko : isOwnD kn = false) (oa : isOwnD a = false) (oa' : isOwnD a' = false) (ot : isOwnD t = false)
    (e1 : callF n 4 [a, kn] = .ret a' []) : callF (n + 1) 4 [.tup [.str w, a, t], kn] = .ret (.tup [.str w, a', t]) [] := by
  simp only [List.mem_cons, List.not_mem_nil, or_false] at hw
  rw [cf4]; unfold bd4
  rcases hw with rfl | rfl <;> simp [sSeq, sIf, sRetX, sSetX, sPut, sDrop, sRetO_eq, sRetN, sPass, sNil, mBin, mVal, mOwnIx, mOwnIxA, mOwn, mC, mTB, mAnd, mOr, mNot, mCB, mCons, mNil, mTup, mIf, mFree, mCall, mCallO, mIsi, mTru, mUn, mAndV, mOrV, mNotV, mSl, mPart, mNoPart, mCW, mMth, mPop, mOwnL, mStrip, getV_eq, getO_eq, ownL, asB, asI, optO, fin1, fnD, settleX_nil, settleX_cons, settles_nil, settle_nil, settle1_nil, settle_cons, settle1_cons, settles_cons, frz, free, frees, free1, ltD, gtD, leD, geD, ordD, intOf, absD, lenD, lenA, listW, ixD, ixA, L2.atI, L2.ixN, addD, subD, modD, fdvD, powD, Dl.intD, negD, strip_eq, isOwn_eq, truthD, isiD, tyOf, isAny, kt0, kb_NoneType_bool, kb_NoneType_int, kb_NoneType_str, kb_NoneType_tuple, kb_NoneType_list, kb_NoneType_dict, kb_NoneType_float, kb_NoneType_set, kb_bool_bool, kb_bool_int, kb_bool_str, kb_bool_tuple, kb_bool_list, kb_bool_dict, kb_bool_float, kb_bool_set, kb_int_bool, kb_int_int, kb_int_str, kb_int_tuple, kb_int_list, kb_int_dict, kb_int_float, kb_int_set, kb_str_bool, kb_str_int, kb_str_str, kb_str_tuple, kb_str_list, kb_str_dict, kb_str_float, kb_str_set, kb_tuple_bool, kb_tuple_int, kb_tuple_str, kb_tuple_tuple, kb_tuple_list, kb_tuple_dict, kb_tuple_float, kb_tuple_set, kb_list_bool, kb_list_int, kb_list_str, kb_list_tuple, kb_list_list, kb_list_dict, kb_list_float, kb_list_set, kb_dict_bool, kb_dict_int, kb_dict_str, kb_dict_tuple, kb_dict_list, kb_dict_dict, kb_dict_float, kb_dict_set, PySem.sizeLine_eq, inS, notInS, inA, notInA, noDct, isInD, notInD, inB, flatD, eqF, eqD, neD, eqB, scalEq, isD, isNotD, isB, ofString_beq, ofString_inj, mChain, mAndV, mOrV, mNotV, mApp, kgI, ko, oa, oa', ot, e1]
theorem r_of {n : Nat} {t : S} {l : List (L2.Key × D)} {z : D} (h : (valK l (.inr t)).getD (.tup [.str "of", .str t]) = z) (zo : isOwnD z = false) : callF (n + 1) 4 [.tup [.str "of", .str t], .dct l] = .ret z [] ∧ callF (n + 1) 16 [.tup [.str "of", .str t], .dct l] = .ret z [] := by
  constructor
  · rw [cf4]; unfold bd4
    simp [sSeq, sIf, sRetX, sSetX, sPut, sDrop, sRetO_eq, sRetN, sPass, sNil, mBin, mVal, mOwnIx, mOwnIxA, mOwn, mC, mTB, mAnd, mOr, mNot, mCB, mCons, mNil, mTup, mIf, mFree, mCall, mCallO, mIsi, mTru, mUn, mAndV, mOrV, mNotV, mSl, mPart, mNoPart, mCW, mMth, mPop, mOwnL, mStrip, getV_eq, getO_eq, ownL, asB, asI, optO, fin1, fnD, settleX_nil, settleX_cons, settles_nil, settle_nil, settle1_nil, settle_cons, settle1_cons, settles_cons, frz, free, frees, free1, ltD, gtD, leD, geD, ordD, intOf, absD, lenD, lenA, listW, ixD, ixA, L2.atI, L2.ixN, addD, subD, modD, fdvD, powD, Dl.intD, negD, strip_eq, isOwn_eq, truthD, isiD, tyOf, isAny, kt0, kb_NoneType_bool, kb_NoneType_int, kb_NoneType_str, kb_NoneType_tuple, kb_NoneType_list, kb_NoneType_dict, kb_NoneType_float, kb_NoneType_set, kb_bool_bool, kb_bool_int, kb_bool_str, kb_bool_tuple, kb_bool_list, kb_bool_dict, kb_bool_float, kb_bool_set, kb_int_bool, kb_int_int, kb_int_str, kb_int_tuple, kb_int_list, kb_int_dict, kb_int_float, kb_int_set, kb_str_bool, kb_str_int, kb_str_str, kb_str_tuple, kb_str_list, kb_str_dict, kb_str_float, kb_str_set, kb_tuple_bool, kb_tuple_int, kb_tuple_str, kb_tuple_tuple, kb_tuple_list, kb_tuple_dict, kb_tuple_float, kb_tuple_set, kb_list_bool, kb_list_int, kb_list_str, kb_list_tuple, kb_list_list, kb_list_dict, kb_list_float, kb_list_set, kb_dict_bool, kb_dict_int, kb_dict_str, kb_dict_tuple, kb_dict_list, kb_dict_dict, kb_dict_float, kb_dict_set, PySem.sizeLine_eq, inS, notInS, inA, notInA, noDct, isInD, notInD, inB, flatD, eqF, eqD, neD, eqB, scalEq, isD, isNotD, isB, ofString_beq, ofString_inj, mChain, mAndV, mOrV, mNotV, mApp, kgI, mGet2', isDct, get2D, keyD, h, zo]
  · rw [cf16]; unfold bd16
    simp [sSeq, sIf, sRetX, sSetX, sPut, sDrop, sRetO_eq, sRetN, sPass, sNil, mBin, mVal, mOwnIx, mOwnIxA, mOwn, mC, mTB, mAnd, mOr, mNot, mCB, mCons, mNil, mTup, mIf, mFree, mCall, mCallO, mIsi, mTru, mUn, mAndV, mOrV, mNotV, mSl, mPart, mNoPart, mCW, mMth, mPop, mOwnL, mStrip, getV_eq, getO_eq, ownL, asB, asI, optO, fin1, fnD, settleX_nil, settleX_cons, settles_nil, settle_nil, settle1_nil, settle_cons, settle1_cons, settles_cons, frz, free, frees, free1, ltD, gtD, leD, geD, ordD, intOf, absD, lenD, lenA, listW, ixD, ixA, L2.atI, L2.ixN, addD, subD, modD, fdvD, powD, Dl.intD, negD, strip_eq, isOwn_eq, truthD, isiD, tyOf, isAny, kt0, kb_NoneType_bool, kb_NoneType_int, kb_NoneType_str, kb_NoneType_tuple, kb_NoneType_list, kb_NoneType_dict, kb_NoneType_float, kb_NoneType_set, kb_bool_bool, kb_bool_int, kb_bool_str, kb_bool_tuple, kb_bool_list, kb_bool_dict, kb_bool_float, kb_bool_set, kb_int_bool, kb_int_int, kb_int_str, kb_int_tuple, kb_int_list, kb_int_dict, kb_int_float, kb_int_set, kb_str_bool, kb_str_int, kb_str_str, kb_str_tuple, kb_str_list, kb_str_dict, kb_str_float, kb_str_set, kb_tuple_bool, kb_tuple_int, kb_tuple_str, kb_tuple_tuple, kb_tuple_list, kb_tuple_dict, kb_tuple_float, kb_tuple_set, kb_list_bool, kb_list_int, kb_list_str, kb_list_tuple, kb_list_list, kb_list_dict, kb_list_float, kb_list_set, kb_dict_bool, kb_dict_int, kb_dict_str, kb_dict_tuple, kb_dict_list, kb_dict_dict, kb_dict_float, kb_dict_set, PySem.sizeLine_eq, inS, notInS, inA, notInA, noDct, isInD, notInD, inB, flatD, eqF, eqD, neD, eqB, scalEq, isD, isNotD, isB, ofString_beq, ofString_inj, mChain, mAndV, mOrV, mNotV, mApp, kgI, mGet2', isDct, get2D, keyD, h, zo]
theorem r_none {n : Nat} {kn : D} (ko : isOwnD kn = false) : callF (n + 1) 4 [.tup [.str "none"], kn] = .ret (.tup [.str "none"]) [] ∧ callF (n + 1) 16 [.tup [.str "none"], kn] = .ret (.tup [.str "none"]) [] := by
  constructor
  · rw [cf4]; unfold bd4
    simp [sSeq, sIf, sRetX, sSetX, sPut, sDrop, sRetO_eq, sRetN, sPass, sNil, mBin, mVal, mOwnIx, mOwnIxA, mOwn, mC, mTB, mAnd, mOr, mNot, mCB, mCons, mNil, mTup, mIf, mFree, mCall, mCallO, mIsi, mTru, mUn, mAndV, mOrV, mNotV, mSl, mPart, mNoPart, mCW, mMth, mPop, mOwnL, mStrip, getV_eq, getO_eq, ownL, asB, asI, optO, fin1, fnD, settleX_nil, settleX_cons, settles_nil, settle_nil, settle1_nil, settle_cons, settle1_cons, settles_cons, frz, free, frees, free1, ltD, gtD, leD, geD, ordD, intOf, absD, lenD, lenA, listW, ixD, ixA, L2.atI, L2.ixN, addD, subD, modD, fdvD, powD, Dl.intD, negD, strip_eq, isOwn_eq, truthD, isiD, tyOf, isAny, kt0, kb_NoneType_bool, kb_NoneType_int, kb_NoneType_str, kb_NoneType_tuple, kb_NoneType_list, kb_NoneType_dict, kb_NoneType_float, kb_NoneType_set, kb_bool_bool, kb_bool_int, kb_bool_str, kb_bool_tuple, kb_bool_list, kb_bool_dict, kb_bool_float, kb_bool_set, kb_int_bool, kb_int_int, kb_int_str, kb_int_tuple, kb_int_list, kb_int_dict, kb_int_float, kb_int_set, kb_str_bool, kb_str_int, kb_str_str, kb_str_tuple, kb_str_list, kb_str_dict, kb_str_float, kb_str_set, kb_tuple_bool, kb_tuple_int, kb_tuple_str, kb_tuple_tuple, kb_tuple_list, kb_tuple_dict, kb_tuple_float, kb_tuple_set, kb_list_bool, kb_list_int, kb_list_str, kb_list_tuple, kb_list_list, kb_list_dict, kb_list_float, kb_list_set, kb_dict_bool, kb_dict_int, kb_dict_str, kb_dict_tuple, kb_dict_list, kb_dict_dict, kb_dict_float, kb_dict_set, PySem.sizeLine_eq, inS, notInS, inA, notInA, noDct, isInD, notInD, inB, flatD, eqF, eqD, neD, eqB, scalEq, isD, isNotD, isB, ofString_beq, ofString_inj, mChain, mAndV, mOrV, mNotV, mApp, kgI, ko]
  · rw [cf16]; unfold bd16
    simp [sSeq, sIf, sRetX, sSetX, sPut, sDrop, sRetO_eq, sRetN, sPass, sNil, mBin, mVal, mOwnIx, mOwnIxA, mOwn, mC, mTB, mAnd, mOr, mNot, mCB, mCons, mNil, mTup, mIf, mFree, mCall, mCallO, mIsi, mTru, mUn, mAndV, mOrV, mNotV, mSl, mPart, mNoPart, mCW, mMth, mPop, mOwnL, mStrip, getV_eq, getO_eq, ownL, asB, asI, optO, fin1, fnD, settleX_nil, settleX_cons, settles_nil, settle_nil, settle1_nil, settle_cons, settle1_cons, settles_cons, frz, free, frees, free1, ltD, gtD, leD, geD, ordD, intOf, absD, lenD, lenA, listW, ixD, ixA, L2.atI, L2.ixN, addD, subD, modD, fdvD, powD, Dl.intD, negD, strip_eq, isOwn_eq, truthD, isiD, tyOf, isAny, kt0, kb_NoneType_bool, kb_NoneType_int, kb_NoneType_str, kb_NoneType_tuple, kb_NoneType_list, kb_NoneType_dict, kb_NoneType_float, kb_NoneType_set, kb_bool_bool, kb_bool_int, kb_bool_str, kb_bool_tuple, kb_bool_list, kb_bool_dict, kb_bool_float, kb_bool_set, kb_int_bool, kb_int_int, kb_int_str, kb_int_tuple, kb_int_list, kb_int_dict, kb_int_float, kb_int_set, kb_str_bool, kb_str_int, kb_str_str, kb_str_tuple, kb_str_list, kb_str_dict, kb_str_float, kb_str_set, kb_tuple_bool, kb_tuple_int, kb_tuple_str, kb_tuple_tuple, kb_tuple_list, kb_tuple_dict, kb_tuple_float, kb_tuple_set, kb_list_bool, kb_list_int, kb_list_str, kb_list_tuple, kb_list_list, kb_list_dict, kb_list_float, kb_list_set, kb_dict_bool, kb_dict_int, kb_dict_str, kb_dict_tuple, kb_dict_list, kb_dict_dict, kb_dict_float, kb_dict_set, PySem.sizeLine_eq, inS, notInS, inA, notInA, noDct, isInD, notInD, inB, flatD, eqF, eqD, neD, eqB, scalEq, isD, isNotD, isB, ofString_beq, ofString_inj, mChain, mAndV, mOrV, mNotV, mApp, kgI, mLcX, mLcC, mIter, anyOf, noOwn, loopC, wipeG, backG, aName, mYes, frz1, tupleD, mRange1, rangeD1, small62, rangeI_len, ko]
theorem rB_pair {n : Nat} {a' b' kn : D} {w w1 w2 : S} {l1 l2 : List D} (hw : w ∈ (["plus", "both", "either", "rest"] : List S)) (ko : isOwnD kn = false) (oa' : isOwnD a' = false) (ob' : isOwnD b' = false)
    (h1 : notInA (.str w1) tstL = some (.bl true)) (h2 : notInA (.str w2) tstL = some (.bl true))
    (e1 : callF n 16 [.tup (.str w1 :: l1), kn] = .ret a' []) (e2 : callF n 16 [.tup (.str w2 :: l2), kn] = .ret b' []) : callF (n + 1) 16 [.tup [.str w, .tup (.str w1 :: l1), .tup (.str w2 :: l2)], kn] = .ret (.tup [.str w, a', b']) [] := by
  simp only [List.mem_cons, List.not_mem_nil, or_false] at hw
  rw [cf16]; unfold bd16
  unfold tstL at h1 h2
  have p1 : ¬ ((l1.length : Int) + 1 ≤ 0) := by omega
  have p2 : ¬ ((l2.length : Int) + 1 ≤ 0) := by omega
  have p3 : (0 : Int) < (l1.length : Int) + 1 := by omega
  have p4 : (0 : Int) < (l2.length : Int) + 1 := by omega
  rcases hw with rfl | rfl | rfl | rfl <;> simp [sSeq, sIf, sRetX, sSetX, sPut, sDrop, sRetO_eq, sRetN, sPass, sNil, mBin, mVal, mOwnIx, mOwnIxA, mOwn, mC, mTB, mAnd, mOr, mNot, mCB, mCons, mNil, mTup, mIf, mFree, mCall, mCallO, mIsi, mTru, mUn, mAndV, mOrV, mNotV, mSl, mPart, mNoPart, mCW, mMth, mPop, mOwnL, mStrip, getV_eq, getO_eq, ownL, asB, asI, optO, fin1, fnD, settleX_nil, settleX_cons, settles_nil, settle_nil, settle1_nil, settle_cons, settle1_cons, settles_cons, frz, free, frees, free1, ltD, gtD, leD, geD, ordD, intOf, absD, lenD, lenA, listW, ixD, ixA, L2.atI, L2.ixN, addD, subD, modD, fdvD, powD, Dl.intD, negD, strip_eq, isOwn_eq, truthD, isiD, tyOf, isAny, kt0, kb_NoneType_bool, kb_NoneType_int, kb_NoneType_str, kb_NoneType_tuple, kb_NoneType_list, kb_NoneType_dict, kb_NoneType_float, kb_NoneType_set, kb_bool_bool, kb_bool_int, kb_bool_str, kb_bool_tuple, kb_bool_list, kb_bool_dict, kb_bool_float, kb_bool_set, kb_int_bool, kb_int_int, kb_int_str, kb_int_tuple, kb_int_list, kb_int_dict, kb_int_float, kb_int_set, kb_str_bool, kb_str_int, kb_str_str, kb_str_tuple, kb_str_list, kb_str_dict, kb_str_float, kb_str_set, kb_tuple_bool, kb_tuple_int, kb_tuple_str, kb_tuple_tuple, kb_tuple_list, kb_tuple_dict, kb_tuple_float, kb_tuple_set, kb_list_bool, kb_list_int, kb_list_str, kb_list_tuple, kb_list_list, kb_list_dict, kb_list_float, kb_list_set, kb_dict_bool, kb_dict_int, kb_dict_str, kb_dict_tuple, kb_dict_list, kb_dict_dict, kb_dict_float, kb_dict_set, ko, oa', ob', e1, e2, h1, h2, p1, p2, p3, p4, eqD, eqB, scalEq, ofString_beq, ofString_inj, PySem.sizeLine_eq, mLcX, mLcC, mIter, anyOf, noOwn, loopC, wipeG, backG, aName, mYes, frz1, tupleD]
theorem rB_times {n : Nat} {a' kn : D} {k : Int} {w1 : S} {l1 : List D} (ko : isOwnD kn = false) (oa' : isOwnD a' = false)
    (h1 : notInA (.str w1) tstL = some (.bl true))
    (e1 : callF n 16 [.tup (.str w1 :: l1), kn] = .ret a' []) : callF (n + 1) 16 [.tup [.str "times", .tup (.str w1 :: l1), .int k], kn] = .ret (.tup [.str "times", a', .int k]) [] := by
  rw [cf16]; unfold bd16
  unfold tstL at h1
  have p3 : (0 : Int) < (l1.length : Int) + 1 := by omega
  simp [sSeq, sIf, sRetX, sSetX, sPut, sDrop, sRetO_eq, sRetN, sPass, sNil, mBin, mVal, mOwnIx, mOwnIxA, mOwn, mC, mTB, mAnd, mOr, mNot, mCB, mCons, mNil, mTup, mIf, mFree, mCall, mCallO, mIsi, mTru, mUn, mAndV, mOrV, mNotV, mSl, mPart, mNoPart, mCW, mMth, mPop, mOwnL, mStrip, getV_eq, getO_eq, ownL, asB, asI, optO, fin1, fnD, settleX_nil, settleX_cons, settles_nil, settle_nil, settle1_nil, settle_cons, settle1_cons, settles_cons, frz, free, frees, free1, ltD, gtD, leD, geD, ordD, intOf, absD, lenD, lenA, listW, ixD, ixA, L2.atI, L2.ixN, addD, subD, modD, fdvD, powD, Dl.intD, negD, strip_eq, isOwn_eq, truthD, isiD, tyOf, isAny, kt0, kb_NoneType_bool, kb_NoneType_int, kb_NoneType_str, kb_NoneType_tuple, kb_NoneType_list, kb_NoneType_dict, kb_NoneType_float, kb_NoneType_set, kb_bool_bool, kb_bool_int, kb_bool_str, kb_bool_tuple, kb_bool_list, kb_bool_dict, kb_bool_float, kb_bool_set, kb_int_bool, kb_int_int, kb_int_str, kb_int_tuple, kb_int_list, kb_int_dict, kb_int_float, kb_int_set, kb_str_bool, kb_str_int, kb_str_str, kb_str_tuple, kb_str_list, kb_str_dict, kb_str_float, kb_str_set, kb_tuple_bool, kb_tuple_int, kb_tuple_str, kb_tuple_tuple, kb_tuple_list, kb_tuple_dict, kb_tuple_float, kb_tuple_set, kb_list_bool, kb_list_int, kb_list_str, kb_list_tuple, kb_list_list, kb_list_dict, kb_list_float, kb_list_set, kb_dict_bool, kb_dict_int, kb_dict_str, kb_dict_tuple, kb_dict_list, kb_dict_dict, kb_dict_float, kb_dict_set, ko, oa', e1, h1, p3, eqD, eqB, scalEq, ofString_beq, ofString_inj, PySem.sizeLine_eq, mLcX, mLcC, mIter, anyOf, noOwn, loopC, wipeG, backG, aName, mYes, frz1, tupleD]
theorem rB_wher {n : Nat} {a' kn : D} {w w1 w2 : S} {l1 l2 : List D} (hw : w ∈ (["where", "unless"] : List S)) (ko : isOwnD kn = false) (oa' : isOwnD a' = false)
    (h1 : notInA (.str w1) tstL = some (.bl true)) (h2 : notInA (.str w2) tstL = some (.bl false))
    (e1 : callF n 16 [.tup (.str w1 :: l1), kn] = .ret a' []) : callF (n + 1) 16 [.tup [.str w, .tup (.str w1 :: l1), .tup (.str w2 :: l2)], kn] = .ret (.tup [.str w, a', .tup (.str w2 :: l2)]) [] := by
  simp only [List.mem_cons, List.not_mem_nil, or_false] at hw
  rw [cf16]; unfold bd16
  unfold tstL at h1 h2
  have p3 : (0 : Int) < (l1.length : Int) + 1 := by omega
  have p4 : (0 : Int) < (l2.length : Int) + 1 := by omega
  rcases hw with rfl | rfl <;> simp [sSeq, sIf, sRetX, sSetX, sPut, sDrop, sRetO_eq, sRetN, sPass, sNil, mBin, mVal, mOwnIx, mOwnIxA, mOwn, mC, mTB, mAnd, mOr, mNot, mCB, mCons, mNil, mTup, mIf, mFree, mCall, mCallO, mIsi, mTru, mUn, mAndV, mOrV, mNotV, mSl, mPart, mNoPart, mCW, mMth, mPop, mOwnL, mStrip, getV_eq, getO_eq, ownL, asB, asI, optO, fin1, fnD, settleX_nil, settleX_cons, settles_nil, settle_nil, settle1_nil, settle_cons, settle1_cons, settles_cons, frz, free, frees, free1, ltD, gtD, leD, geD, ordD, intOf, absD, lenD, lenA, listW, ixD, ixA, L2.atI, L2.ixN, addD, subD, modD, fdvD, powD, Dl.intD, negD, strip_eq, isOwn_eq, truthD, isiD, tyOf, isAny, kt0, kb_NoneType_bool, kb_NoneType_int, kb_NoneType_str, kb_NoneType_tuple, kb_NoneType_list, kb_NoneType_dict, kb_NoneType_float, kb_NoneType_set, kb_bool_bool, kb_bool_int, kb_bool_str, kb_bool_tuple, kb_bool_list, kb_bool_dict, kb_bool_float, kb_bool_set, kb_int_bool, kb_int_int, kb_int_str, kb_int_tuple, kb_int_list, kb_int_dict, kb_int_float, kb_int_set, kb_str_bool, kb_str_int, kb_str_str, kb_str_tuple, kb_str_list, kb_str_dict, kb_str_float, kb_str_set, kb_tuple_bool, kb_tuple_int, kb_tuple_str, kb_tuple_tuple, kb_tuple_list, kb_tuple_dict, kb_tuple_float, kb_tuple_set, kb_list_bool, kb_list_int, kb_list_str, kb_list_tuple, kb_list_list, kb_list_dict, kb_list_float, kb_list_set, kb_dict_bool, kb_dict_int, kb_dict_str, kb_dict_tuple, kb_dict_list, kb_dict_dict, kb_dict_float, kb_dict_set, ko, oa', e1, h1, h2, p3, p4, eqD, eqB, scalEq, ofString_beq, ofString_inj, PySem.sizeLine_eq, mLcX, mLcC, mIter, anyOf, noOwn, loopC, wipeG, backG, aName, mYes, frz1, tupleD]
end Lw
set_option maxHeartbeats 0
/-! L04s: k04, replaced questions and their numbers. -/
namespace Lw
open Dl
variable {cols names tb : List S}
def KnOk (names tb cols : List S) (kn : D) : Prop := ∃ l, kn = .dct l ∧ ∀ t ∈ names, valK l (.inr t) = none ∨ ∃ q s d m, valK l (.inr t) = some q ∧ QT tb cols q s d m ∧ m ≤ 8 ∧ d ≤ 2
def MoOk (names : List S) (kn cnt row more : D) : Prop := ∃ l c e, kn = .dct l ∧ cnt = .dct c ∧ more = .dct e ∧ ∀ t ∈ names, (valK l (.inr t) = none → valK e (.inr t) = valK c (.inr t)) ∧
  ∀ q, valK l (.inr t) = some q → ∃ N : Int, valK e (.inr t) = some (.int N) ∧ callF 59 14 [q, cnt, row] = .ret (.int N) []
theorem repl {kn : D} (sub : ∀ t ∈ tb, t ∈ names) (kk : KnOk names tb cols kn) {q : D} {s d m : Nat} (h : QT names cols q s d m) : ∃ told s' d' m', QT names cols told s' d' m' ∧ m' ≤ 8 * m ∧ d' ≤ d + 2 ∧
    ∀ n, d + 2 ≤ n → callF n 4 [q, kn] = .ret told [] ∧ callF n 16 [q, kn] = .ret told [] := by
  have ko : isOwnD kn = false := by obtain ⟨l, rfl, _⟩ := kk; rfl
  induction h with
  | none =>
    refine ⟨_, _, _, _, .none, by omega, by omega, fun n hn => ?_⟩
    obtain ⟨j, rfl⟩ : ∃ j, n = j + 1 := ⟨n - 1, by omega⟩
    exact r_none ko
  | @of t ht =>
    obtain ⟨l, rfl, hl⟩ := kk
    rcases hl t ht with e | ⟨q, s, d, m, e, hq, hm, hd⟩
    · refine ⟨_, _, _, _, .of ht, by omega, by omega, fun n hn => ?_⟩
      obtain ⟨j, rfl⟩ : ∃ j, n = j + 1 := ⟨n - 1, by omega⟩
      exact r_of (by rw [e]; rfl) rfl
    · refine ⟨_, _, _, _, hq.mono sub, by omega, by omega, fun n hn => ?_⟩
      obtain ⟨j, rfl⟩ : ∃ j, n = j + 1 := ⟨n - 1, by omega⟩
      exact r_of (by rw [e]; rfl) hq.own
  | @pair a b w s s' d d' m m' hw ha hb ia ib =>
    obtain ⟨ta, sa, da, ma, qa, a1, a2, ea⟩ := ia
    obtain ⟨tb', sb, db, mb, qb, b1, b2, eb⟩ := ib
    obtain ⟨w1, l1, rfl, n1⟩ := ha.head
    obtain ⟨w2, l2, rfl, n2⟩ := hb.head
    refine ⟨_, _, _, _, .pair hw qa qb, by omega, by omega, fun n hn => ?_⟩
    obtain ⟨j, rfl⟩ : ∃ j, n = j + 1 := ⟨n - 1, by omega⟩
    obtain ⟨x1, x2⟩ := ea j (by omega)
    obtain ⟨y1, y2⟩ := eb j (by omega)
    exact ⟨rA_pair hw ko ha.own hb.own qa.own qb.own x1 y1, rB_pair hw ko qa.own qb.own n1 n2 x2 y2⟩
  | @times a k s d m ha h0 h9 ia =>
    obtain ⟨ta, sa, da, ma, qa, a1, a2, ea⟩ := ia
    obtain ⟨w1, l1, rfl, n1⟩ := ha.head
    refine ⟨_, _, _, _, .times qa h0 h9, by omega, by omega, fun n hn => ?_⟩
    obtain ⟨j, rfl⟩ : ∃ j, n = j + 1 := ⟨n - 1, by omega⟩
    obtain ⟨x1, x2⟩ := ea j (by omega)
    exact ⟨rA_times ko ha.own qa.own rfl x1, rB_times ko qa.own n1 x2⟩
  | @wher a t w s s' d d' m m' hw ha ht ia =>
    obtain ⟨ta, sa, da, ma, qa, a1, a2, ea⟩ := ia
    obtain ⟨w1, l1, rfl, n1⟩ := ha.head
    obtain ⟨w2, l2, rfl, n2⟩ := ht.head
    refine ⟨_, _, _, _, .wher hw qa ht, by omega, by omega, fun n hn => ?_⟩
    obtain ⟨j, rfl⟩ : ∃ j, n = j + 1 := ⟨n - 1, by omega⟩
    obtain ⟨x1, x2⟩ := ea j (by omega)
    exact ⟨rA_wher hw ko ha.own qa.own ht.own x1, rB_wher hw ko qa.own n1 n2 x2⟩
theorem ret_inj {a b : D} {x y : Env} (h : OutF.ret a x = .ret b y) : a = b := by injection h
theorem numbers {kn cnt row more : D} (sub : ∀ t ∈ tb, t ∈ names) (r : RowOk cols row) (c : CntOk names cnt) (kk : KnOk names tb cols kn) (mo : MoOk names kn cnt row more) {q : D} {s d m : Nat} (h : QT names cols q s d m) :
    m ≤ 100 → ∃ told m' N, m' ≤ 8 * m ∧ isOwnD told = false ∧ 0 ≤ N ∧ N.natAbs < 2 ^ (67 + 4 * m') ∧ ∀ n, d + 10 ≤ n → callF n 4 [q, kn] = .ret told [] ∧ callF n 2 [told, cnt, row] = .ret (.int N) [] ∧ callF n 14 [q, more, row] = .ret (.int N) [] := by
  have ko : isOwnD kn = false := by obtain ⟨l, rfl, _⟩ := kk; rfl
  have co := c.own
  have ro := r.own
  have meo : isOwnD more = false := by obtain ⟨l, x, e, _, _, rfl, _⟩ := mo; rfl
  induction h with
  | none =>
    refine fun _ => ⟨.tup [.str "none"], 1, 0, by omega, rfl, by omega, Nat.two_pow_pos _, fun n hn => ?_⟩
    obtain ⟨j, rfl⟩ : ∃ j, n = j + 1 := ⟨n - 1, by omega⟩
    obtain ⟨N, _, _, hN⟩ := number_eq r c (QT.none (names := names) (cols := cols)) (by omega)
    refine ⟨(r_none ko).1, ?_, ?_⟩
    · rw [cf2]; unfold bd2; simp [sSeq, sIf, sRetX, sSetX, sPut, sDrop, sRetO_eq, sRetN, sPass, sNil, mBin, mVal, mOwnIx, mOwnIxA, mOwn, mC, mTB, mAnd, mOr, mNot, mCB, mCons, mNil, mTup, mIf, mFree, mCall, mCallO, mIsi, mTru, mUn, mAndV, mOrV, mNotV, mSl, mPart, mNoPart, mCW, mMth, mPop, mOwnL, mStrip, getV_eq, getO_eq, ownL, asB, asI, optO, fin1, fnD, settleX_nil, settleX_cons, settles_nil, settle_nil, settle1_nil, settle_cons, settle1_cons, settles_cons, frz, free, frees, free1, ltD, gtD, leD, geD, ordD, intOf, absD, lenD, lenA, listW, ixD, ixA, L2.atI, L2.ixN, addD, subD, modD, fdvD, powD, Dl.intD, negD, strip_eq, isOwn_eq, truthD, isiD, tyOf, isAny, kt0, kb_NoneType_bool, kb_NoneType_int, kb_NoneType_str, kb_NoneType_tuple, kb_NoneType_list, kb_NoneType_dict, kb_NoneType_float, kb_NoneType_set, kb_bool_bool, kb_bool_int, kb_bool_str, kb_bool_tuple, kb_bool_list, kb_bool_dict, kb_bool_float, kb_bool_set, kb_int_bool, kb_int_int, kb_int_str, kb_int_tuple, kb_int_list, kb_int_dict, kb_int_float, kb_int_set, kb_str_bool, kb_str_int, kb_str_str, kb_str_tuple, kb_str_list, kb_str_dict, kb_str_float, kb_str_set, kb_tuple_bool, kb_tuple_int, kb_tuple_str, kb_tuple_tuple, kb_tuple_list, kb_tuple_dict, kb_tuple_float, kb_tuple_set, kb_list_bool, kb_list_int, kb_list_str, kb_list_tuple, kb_list_list, kb_list_dict, kb_list_float, kb_list_set, kb_dict_bool, kb_dict_int, kb_dict_str, kb_dict_tuple, kb_dict_list, kb_dict_dict, kb_dict_float, kb_dict_set, PySem.sizeLine_eq, inS, notInS, inA, notInA, noDct, isInD, notInD, inB, flatD, eqF, eqD, neD, eqB, scalEq, isD, isNotD, isB, ofString_beq, ofString_inj, mChain, mAndV, mOrV, mNotV, mApp, kgI, co, ro]
    · rw [cf14]; unfold bd14; simp [sSeq, sIf, sRetX, sSetX, sPut, sDrop, sRetO_eq, sRetN, sPass, sNil, mBin, mVal, mOwnIx, mOwnIxA, mOwn, mC, mTB, mAnd, mOr, mNot, mCB, mCons, mNil, mTup, mIf, mFree, mCall, mCallO, mIsi, mTru, mUn, mAndV, mOrV, mNotV, mSl, mPart, mNoPart, mCW, mMth, mPop, mOwnL, mStrip, getV_eq, getO_eq, ownL, asB, asI, optO, fin1, fnD, settleX_nil, settleX_cons, settles_nil, settle_nil, settle1_nil, settle_cons, settle1_cons, settles_cons, frz, free, frees, free1, ltD, gtD, leD, geD, ordD, intOf, absD, lenD, lenA, listW, ixD, ixA, L2.atI, L2.ixN, addD, subD, modD, fdvD, powD, Dl.intD, negD, strip_eq, isOwn_eq, truthD, isiD, tyOf, isAny, kt0, kb_NoneType_bool, kb_NoneType_int, kb_NoneType_str, kb_NoneType_tuple, kb_NoneType_list, kb_NoneType_dict, kb_NoneType_float, kb_NoneType_set, kb_bool_bool, kb_bool_int, kb_bool_str, kb_bool_tuple, kb_bool_list, kb_bool_dict, kb_bool_float, kb_bool_set, kb_int_bool, kb_int_int, kb_int_str, kb_int_tuple, kb_int_list, kb_int_dict, kb_int_float, kb_int_set, kb_str_bool, kb_str_int, kb_str_str, kb_str_tuple, kb_str_list, kb_str_dict, kb_str_float, kb_str_set, kb_tuple_bool, kb_tuple_int, kb_tuple_str, kb_tuple_tuple, kb_tuple_list, kb_tuple_dict, kb_tuple_float, kb_tuple_set, kb_list_bool, kb_list_int, kb_list_str, kb_list_tuple, kb_list_list, kb_list_dict, kb_list_float, kb_list_set, kb_dict_bool, kb_dict_int, kb_dict_str, kb_dict_tuple, kb_dict_list, kb_dict_dict, kb_dict_float, kb_dict_set, PySem.sizeLine_eq, inS, notInS, inA, notInA, noDct, isInD, notInD, inB, flatD, eqF, eqD, neD, eqB, scalEq, isD, isNotD, isB, ofString_beq, ofString_inj, mChain, mAndV, mOrV, mNotV, mApp, kgI, meo, ro]
  | @of t ht =>
    intro hm
    obtain ⟨l, x, e, rfl, rfl, rfl, hmo⟩ := mo
    obtain ⟨_, e1, hl⟩ := kk
    cases e1
    obtain ⟨mo1, mo2⟩ := hmo t ht
    have c' := c
    obtain ⟨_, e1, hc⟩ := c'
    cases e1
    rcases hl t ht with e0 | ⟨q, s, d, m, e0, hq, hqm, hqd⟩
    · obtain ⟨i, ei, i0, i1⟩ := hc t ht
      refine ⟨.tup [.str "of", .str t], 1, i, by omega, rfl, i0, Nat.lt_of_lt_of_le i1 (Nat.pow_le_pow_right (by omega) (by omega)), fun n hn => ?_⟩
      obtain ⟨j, rfl⟩ : ∃ j, n = j + 1 := ⟨n - 1, by omega⟩
      have ee := (mo1 e0).trans ei
      refine ⟨(r_of (by rw [e0]; rfl) rfl).1, ?_, ?_⟩
      · rw [cf2]; unfold bd2; simp [sSeq, sIf, sRetX, sSetX, sPut, sDrop, sRetO_eq, sRetN, sPass, sNil, mBin, mVal, mOwnIx, mOwnIxA, mOwn, mC, mTB, mAnd, mOr, mNot, mCB, mCons, mNil, mTup, mIf, mFree, mCall, mCallO, mIsi, mTru, mUn, mAndV, mOrV, mNotV, mSl, mPart, mNoPart, mCW, mMth, mPop, mOwnL, mStrip, getV_eq, getO_eq, ownL, asB, asI, optO, fin1, fnD, settleX_nil, settleX_cons, settles_nil, settle_nil, settle1_nil, settle_cons, settle1_cons, settles_cons, frz, free, frees, free1, ltD, gtD, leD, geD, ordD, intOf, absD, lenD, lenA, listW, ixD, ixA, L2.atI, L2.ixN, addD, subD, modD, fdvD, powD, Dl.intD, negD, strip_eq, isOwn_eq, truthD, isiD, tyOf, isAny, kt0, kb_NoneType_bool, kb_NoneType_int, kb_NoneType_str, kb_NoneType_tuple, kb_NoneType_list, kb_NoneType_dict, kb_NoneType_float, kb_NoneType_set, kb_bool_bool, kb_bool_int, kb_bool_str, kb_bool_tuple, kb_bool_list, kb_bool_dict, kb_bool_float, kb_bool_set, kb_int_bool, kb_int_int, kb_int_str, kb_int_tuple, kb_int_list, kb_int_dict, kb_int_float, kb_int_set, kb_str_bool, kb_str_int, kb_str_str, kb_str_tuple, kb_str_list, kb_str_dict, kb_str_float, kb_str_set, kb_tuple_bool, kb_tuple_int, kb_tuple_str, kb_tuple_tuple, kb_tuple_list, kb_tuple_dict, kb_tuple_float, kb_tuple_set, kb_list_bool, kb_list_int, kb_list_str, kb_list_tuple, kb_list_list, kb_list_dict, kb_list_float, kb_list_set, kb_dict_bool, kb_dict_int, kb_dict_str, kb_dict_tuple, kb_dict_list, kb_dict_dict, kb_dict_float, kb_dict_set, PySem.sizeLine_eq, inS, notInS, inA, notInA, noDct, isInD, notInD, inB, flatD, eqF, eqD, neD, eqB, scalEq, isD, isNotD, isB, ofString_beq, ofString_inj, mChain, mAndV, mOrV, mNotV, mApp, kgI, ro, keyD, ei]
      · rw [cf14]; unfold bd14; simp [sSeq, sIf, sRetX, sSetX, sPut, sDrop, sRetO_eq, sRetN, sPass, sNil, mBin, mVal, mOwnIx, mOwnIxA, mOwn, mC, mTB, mAnd, mOr, mNot, mCB, mCons, mNil, mTup, mIf, mFree, mCall, mCallO, mIsi, mTru, mUn, mAndV, mOrV, mNotV, mSl, mPart, mNoPart, mCW, mMth, mPop, mOwnL, mStrip, getV_eq, getO_eq, ownL, asB, asI, optO, fin1, fnD, settleX_nil, settleX_cons, settles_nil, settle_nil, settle1_nil, settle_cons, settle1_cons, settles_cons, frz, free, frees, free1, ltD, gtD, leD, geD, ordD, intOf, absD, lenD, lenA, listW, ixD, ixA, L2.atI, L2.ixN, addD, subD, modD, fdvD, powD, Dl.intD, negD, strip_eq, isOwn_eq, truthD, isiD, tyOf, isAny, kt0, kb_NoneType_bool, kb_NoneType_int, kb_NoneType_str, kb_NoneType_tuple, kb_NoneType_list, kb_NoneType_dict, kb_NoneType_float, kb_NoneType_set, kb_bool_bool, kb_bool_int, kb_bool_str, kb_bool_tuple, kb_bool_list, kb_bool_dict, kb_bool_float, kb_bool_set, kb_int_bool, kb_int_int, kb_int_str, kb_int_tuple, kb_int_list, kb_int_dict, kb_int_float, kb_int_set, kb_str_bool, kb_str_int, kb_str_str, kb_str_tuple, kb_str_list, kb_str_dict, kb_str_float, kb_str_set, kb_tuple_bool, kb_tuple_int, kb_tuple_str, kb_tuple_tuple, kb_tuple_list, kb_tuple_dict, kb_tuple_float, kb_tuple_set, kb_list_bool, kb_list_int, kb_list_str, kb_list_tuple, kb_list_list, kb_list_dict, kb_list_float, kb_list_set, kb_dict_bool, kb_dict_int, kb_dict_str, kb_dict_tuple, kb_dict_list, kb_dict_dict, kb_dict_float, kb_dict_set, PySem.sizeLine_eq, inS, notInS, inA, notInA, noDct, isInD, notInD, inB, flatD, eqF, eqD, neD, eqB, scalEq, isD, isNotD, isB, ofString_beq, ofString_inj, mChain, mAndV, mOrV, mNotV, mApp, kgI, ro, keyD, ee]
    · obtain ⟨N, n0, n1, hN⟩ := number_eq r c (hq.mono sub) (by omega)
      obtain ⟨N', ee, eN⟩ := mo2 q e0
      have e2 := ret_inj ((hN 59 (by omega)).2.symm.trans eN)
      have e2 : N = N' := by injection e2
      subst e2
      refine ⟨q, m, N, by omega, hq.own, n0, n1, fun n hn => ?_⟩
      obtain ⟨j, rfl⟩ : ∃ j, n = j + 1 := ⟨n - 1, by omega⟩
      refine ⟨(r_of (by rw [e0]; rfl) hq.own).1, (hN _ (by omega)).1, ?_⟩
      rw [cf14]; unfold bd14; simp [sSeq, sIf, sRetX, sSetX, sPut, sDrop, sRetO_eq, sRetN, sPass, sNil, mBin, mVal, mOwnIx, mOwnIxA, mOwn, mC, mTB, mAnd, mOr, mNot, mCB, mCons, mNil, mTup, mIf, mFree, mCall, mCallO, mIsi, mTru, mUn, mAndV, mOrV, mNotV, mSl, mPart, mNoPart, mCW, mMth, mPop, mOwnL, mStrip, getV_eq, getO_eq, ownL, asB, asI, optO, fin1, fnD, settleX_nil, settleX_cons, settles_nil, settle_nil, settle1_nil, settle_cons, settle1_cons, settles_cons, frz, free, frees, free1, ltD, gtD, leD, geD, ordD, intOf, absD, lenD, lenA, listW, ixD, ixA, L2.atI, L2.ixN, addD, subD, modD, fdvD, powD, Dl.intD, negD, strip_eq, isOwn_eq, truthD, isiD, tyOf, isAny, kt0, kb_NoneType_bool, kb_NoneType_int, kb_NoneType_str, kb_NoneType_tuple, kb_NoneType_list, kb_NoneType_dict, kb_NoneType_float, kb_NoneType_set, kb_bool_bool, kb_bool_int, kb_bool_str, kb_bool_tuple, kb_bool_list, kb_bool_dict, kb_bool_float, kb_bool_set, kb_int_bool, kb_int_int, kb_int_str, kb_int_tuple, kb_int_list, kb_int_dict, kb_int_float, kb_int_set, kb_str_bool, kb_str_int, kb_str_str, kb_str_tuple, kb_str_list, kb_str_dict, kb_str_float, kb_str_set, kb_tuple_bool, kb_tuple_int, kb_tuple_str, kb_tuple_tuple, kb_tuple_list, kb_tuple_dict, kb_tuple_float, kb_tuple_set, kb_list_bool, kb_list_int, kb_list_str, kb_list_tuple, kb_list_list, kb_list_dict, kb_list_float, kb_list_set, kb_dict_bool, kb_dict_int, kb_dict_str, kb_dict_tuple, kb_dict_list, kb_dict_dict, kb_dict_float, kb_dict_set, PySem.sizeLine_eq, inS, notInS, inA, notInA, noDct, isInD, notInD, inB, flatD, eqF, eqD, neD, eqB, scalEq, isD, isNotD, isB, ofString_beq, ofString_inj, mChain, mAndV, mOrV, mNotV, mApp, kgI, ro, keyD, ee]
  | @pair a b w s s' d d' m m' hw ha hb ia ib =>
    intro hm
    obtain ⟨ta, ma, N, a1, oa, n0, n1, hN⟩ := ia (by omega)
    obtain ⟨tb', mb, M, b1, ob, m0, m1, hM⟩ := ib (by omega)
    have c1 := cap_le (a := ma) (b := ma + mb) (by omega)
    have c2 := cap_le (a := mb) (b := ma + mb) (by omega)
    have c3 := cap_r (a := ma) (b := mb)
    obtain ⟨Z, z0, z1, zA, zB⟩ := step_pair hw N M n0 m0
    refine ⟨.tup [.str w, ta, tb'], 1 + (ma + mb), Z, by omega, rfl, z0, ?_, fun n hn => ?_⟩
    · revert n1 m1 c1 c2 c3
      generalize 2 ^ (67 + 4 * ma) = A
      generalize 2 ^ (67 + 4 * mb) = B
      generalize 2 ^ (67 + 4 * (1 + (ma + mb))) = C
      generalize 2 ^ (67 + 4 * (ma + mb)) = Y
      intro n1 m1 c1 c2 c3
      omega
    · obtain ⟨j, rfl⟩ : ∃ j, n = j + 1 := ⟨n - 1, by omega⟩
      obtain ⟨x1, x2, x3⟩ := hN j (by omega)
      obtain ⟨y1, y2, y3⟩ := hM j (by omega)
      exact ⟨rA_pair hw ko ha.own hb.own oa ob x1 y1, zA j _ _ _ _ co ro oa ob x2 y2, zB j _ _ _ _ meo ro ha.own hb.own x3 y3⟩
  | @times a k s d m ha h0 h9 ia =>
    intro hm
    obtain ⟨ta, ma, N, a1, oa, n0, n1, hN⟩ := ia (by omega)
    obtain ⟨kn', rfl⟩ := Int.eq_ofNat_of_zero_le h0
    have big : PySem.Builtin.Int.intBits N ≤ 100000 := Nat.le_trans (intBits_lt n1 (by omega)) (by omega)
    have c3 := cap_16 ma
    obtain ⟨Z, z0, z1, zA, zB⟩ := step_times (kn := kn') (by omega) N n0 big
    refine ⟨.tup [.str "times", ta, .int kn'], 1 + ma, Z, by omega, rfl, z0, ?_, fun n hn => ?_⟩
    · revert n1 c3
      generalize 2 ^ (67 + 4 * (1 + ma)) = C
      generalize 2 ^ (67 + 4 * ma) = Y
      intro n1 c3
      omega
    · obtain ⟨j, rfl⟩ : ∃ j, n = j + 1 := ⟨n - 1, by omega⟩
      obtain ⟨x1, x2, x3⟩ := hN j (by omega)
      exact ⟨rA_times ko ha.own oa rfl x1, zA j _ _ _ co ro oa x2, zB j _ _ _ meo ro ha.own x3⟩
  | @wher a t w s s' d d' m m' hw ha ht ia =>
    intro hm
    obtain ⟨ta, ma, N, a1, oa, n0, n1, hN⟩ := ia (by omega)
    obtain ⟨b, hb⟩ := truth_eq r ht
    have c1 := cap_le (a := ma) (b := 1 + ma) (by omega)
    refine ⟨.tup [.str w, ta, t], 1 + ma, wherI b w N, by omega, rfl, by unfold wherI; split <;> omega, ?_, fun n hn => ?_⟩
    · revert n1 c1
      generalize 2 ^ (67 + 4 * ma) = A
      generalize 2 ^ (67 + 4 * (1 + ma)) = C
      intro n1 c1
      unfold wherI
      split <;> omega
    · obtain ⟨j, rfl⟩ : ∃ j, n = j + 1 := ⟨n - 1, by omega⟩
      obtain ⟨x1, x2, x3⟩ := hN j (by omega)
      exact ⟨rA_wher hw ko ha.own oa ht.own x1, numA_wher hw co ro oa ht.own x2 (hb j (by omega)).1, numB_wher hw meo ro ha.own ht.own x3 (hb j (by omega)).2⟩
end Lw
set_option maxHeartbeats 0
/-! L04n: k04, the names in a question. -/
namespace Lw
open Dl
variable {cols names tb : List S}
/-- the names, as the law gathers them -/
inductive Nms (names cols : List S) : D → List S → Prop
  | none : Nms names cols (.tup [.str "none"]) []
  | of {t : S} (ht : t ∈ names) : Nms names cols (.tup [.str "of", .str t]) [t]
  | pair {a b : D} {w : S} {la lb : List S} (hw : w ∈ (["plus", "both", "either", "rest"] : List S)) (ha : Nms names cols a la) (hb : Nms names cols b lb) : Nms names cols (.tup [.str w, a, b]) (la ++ lb)
  | one {a c : D} {w : S} {la : List S} (hw : w ∈ (["times", "where", "unless"] : List S)) (ha : Nms names cols a la) : Nms names cols (.tup [.str w, a, c]) la
theorem QT.nms {v : D} {s d m : Nat} (q : QT names cols v s d m) : ∃ l, Nms names cols v l ∧ l.length ≤ m ∧ ∀ t ∈ l, t ∈ names := by
  induction q with
  | none => exact ⟨[], .none, by simp, by simp⟩
  | @of t ht => exact ⟨[t], .of ht, by simp, by simpa using ht⟩
  | pair hw _ _ ia ib =>
    obtain ⟨la, a1, a2, a3⟩ := ia
    obtain ⟨lb, b1, b2, b3⟩ := ib
    refine ⟨la ++ lb, .pair hw a1 b1, by rw [List.length_append]; omega, fun t ht => ?_⟩
    rcases List.mem_append.mp ht with h | h
    · exact a3 t h
    · exact b3 t h
  | times _ h0 h9 ia =>
    obtain ⟨la, a1, a2, a3⟩ := ia
    exact ⟨la, .one (by simp) a1, by omega, a3⟩
  | wher hw _ ht ia =>
    obtain ⟨la, a1, a2, a3⟩ := ia
    refine ⟨la, .one ?_ a1, by omega, a3⟩
    simp only [List.mem_cons, List.not_mem_nil, or_false] at hw ⊢
    exact .inr hw
/-! the law's gathering -/
theorem inner3 {n : Nat} {w : S} {a b : List D} : callF (n + 1) 12 [.tup [.str w, .tup a, .tup b]] = .ret (.own (.lst [.tup a, .tup b])) [] := by
  rw [cf12]; unfold bd12
  simp [sSeq, sIf, sRetX, sSetX, sPut, sDrop, sRetO_eq, sRetN, sPass, sNil, mBin, mVal, mOwnIx, mOwnIxA, mOwn, mC, mTB, mAnd, mOr, mNot, mCB, mCons, mNil, mTup, mIf, mFree, mCall, mCallO, mIsi, mTru, mUn, mAndV, mOrV, mNotV, mSl, mPart, mNoPart, mCW, mMth, mPop, mOwnL, mStrip, getV_eq, getO_eq, ownL, asB, asI, optO, fin1, fnD, settleX_nil, settleX_cons, settles_nil, settle_nil, settle1_nil, settle_cons, settle1_cons, settles_cons, frz, free, frees, free1, ltD, gtD, leD, geD, ordD, intOf, absD, lenD, lenA, listW, ixD, ixA, L2.atI, L2.ixN, addD, subD, modD, fdvD, powD, Dl.intD, negD, strip_eq, isOwn_eq, truthD, isiD, tyOf, isAny, kt0, kb_NoneType_bool, kb_NoneType_int, kb_NoneType_str, kb_NoneType_tuple, kb_NoneType_list, kb_NoneType_dict, kb_NoneType_float, kb_NoneType_set, kb_bool_bool, kb_bool_int, kb_bool_str, kb_bool_tuple, kb_bool_list, kb_bool_dict, kb_bool_float, kb_bool_set, kb_int_bool, kb_int_int, kb_int_str, kb_int_tuple, kb_int_list, kb_int_dict, kb_int_float, kb_int_set, kb_str_bool, kb_str_int, kb_str_str, kb_str_tuple, kb_str_list, kb_str_dict, kb_str_float, kb_str_set, kb_tuple_bool, kb_tuple_int, kb_tuple_str, kb_tuple_tuple, kb_tuple_list, kb_tuple_dict, kb_tuple_float, kb_tuple_set, kb_list_bool, kb_list_int, kb_list_str, kb_list_tuple, kb_list_list, kb_list_dict, kb_list_float, kb_list_set, kb_dict_bool, kb_dict_int, kb_dict_str, kb_dict_tuple, kb_dict_list, kb_dict_dict, kb_dict_float, kb_dict_set, PySem.sizeLine_eq, inS, notInS, inA, notInA, noDct, isInD, notInD, inB, flatD, eqF, eqD, neD, eqB, scalEq, isD, isNotD, isB, ofString_beq, ofString_inj, mChain, mAndV, mOrV, mNotV, mApp, kgI, mLcX, mLcC, mIter, anyOf, noOwn, loopC, wipeG, backG, aName, mYes, frz1, tupleD, mRange1, rangeD1, small62, rangeI_len]
theorem inner2 {n : Nat} {w : S} {a : List D} {k : Int} : callF (n + 1) 12 [.tup [.str w, .tup a, .int k]] = .ret (.own (.lst [.tup a])) [] := by
  rw [cf12]; unfold bd12
  simp [sSeq, sIf, sRetX, sSetX, sPut, sDrop, sRetO_eq, sRetN, sPass, sNil, mBin, mVal, mOwnIx, mOwnIxA, mOwn, mC, mTB, mAnd, mOr, mNot, mCB, mCons, mNil, mTup, mIf, mFree, mCall, mCallO, mIsi, mTru, mUn, mAndV, mOrV, mNotV, mSl, mPart, mNoPart, mCW, mMth, mPop, mOwnL, mStrip, getV_eq, getO_eq, ownL, asB, asI, optO, fin1, fnD, settleX_nil, settleX_cons, settles_nil, settle_nil, settle1_nil, settle_cons, settle1_cons, settles_cons, frz, free, frees, free1, ltD, gtD, leD, geD, ordD, intOf, absD, lenD, lenA, listW, ixD, ixA, L2.atI, L2.ixN, addD, subD, modD, fdvD, powD, Dl.intD, negD, strip_eq, isOwn_eq, truthD, isiD, tyOf, isAny, kt0, kb_NoneType_bool, kb_NoneType_int, kb_NoneType_str, kb_NoneType_tuple, kb_NoneType_list, kb_NoneType_dict, kb_NoneType_float, kb_NoneType_set, kb_bool_bool, kb_bool_int, kb_bool_str, kb_bool_tuple, kb_bool_list, kb_bool_dict, kb_bool_float, kb_bool_set, kb_int_bool, kb_int_int, kb_int_str, kb_int_tuple, kb_int_list, kb_int_dict, kb_int_float, kb_int_set, kb_str_bool, kb_str_int, kb_str_str, kb_str_tuple, kb_str_list, kb_str_dict, kb_str_float, kb_str_set, kb_tuple_bool, kb_tuple_int, kb_tuple_str, kb_tuple_tuple, kb_tuple_list, kb_tuple_dict, kb_tuple_float, kb_tuple_set, kb_list_bool, kb_list_int, kb_list_str, kb_list_tuple, kb_list_list, kb_list_dict, kb_list_float, kb_list_set, kb_dict_bool, kb_dict_int, kb_dict_str, kb_dict_tuple, kb_dict_list, kb_dict_dict, kb_dict_float, kb_dict_set, PySem.sizeLine_eq, inS, notInS, inA, notInA, noDct, isInD, notInD, inB, flatD, eqF, eqD, neD, eqB, scalEq, isD, isNotD, isB, ofString_beq, ofString_inj, mChain, mAndV, mOrV, mNotV, mApp, kgI, mLcX, mLcC, mIter, anyOf, noOwn, loopC, wipeG, backG, aName, mYes, frz1, tupleD, mRange1, rangeD1, small62, rangeI_len]
theorem inner0 {n : Nat} : callF (n + 1) 12 [.tup [.str "none"]] = .ret (.own (.lst [])) [] := by
  rw [cf12]; unfold bd12
  simp [sSeq, sIf, sRetX, sSetX, sPut, sDrop, sRetO_eq, sRetN, sPass, sNil, mBin, mVal, mOwnIx, mOwnIxA, mOwn, mC, mTB, mAnd, mOr, mNot, mCB, mCons, mNil, mTup, mIf, mFree, mCall, mCallO, mIsi, mTru, mUn, mAndV, mOrV, mNotV, mSl, mPart, mNoPart, mCW, mMth, mPop, mOwnL, mStrip, getV_eq, getO_eq, ownL, asB, asI, optO, fin1, fnD, settleX_nil, settleX_cons, settles_nil, settle_nil, settle1_nil, settle_cons, settle1_cons, settles_cons, frz, free, frees, free1, ltD, gtD, leD, geD, ordD, intOf, absD, lenD, lenA, listW, ixD, ixA, L2.atI, L2.ixN, addD, subD, modD, fdvD, powD, Dl.intD, negD, strip_eq, isOwn_eq, truthD, isiD, tyOf, isAny, kt0, kb_NoneType_bool, kb_NoneType_int, kb_NoneType_str, kb_NoneType_tuple, kb_NoneType_list, kb_NoneType_dict, kb_NoneType_float, kb_NoneType_set, kb_bool_bool, kb_bool_int, kb_bool_str, kb_bool_tuple, kb_bool_list, kb_bool_dict, kb_bool_float, kb_bool_set, kb_int_bool, kb_int_int, kb_int_str, kb_int_tuple, kb_int_list, kb_int_dict, kb_int_float, kb_int_set, kb_str_bool, kb_str_int, kb_str_str, kb_str_tuple, kb_str_list, kb_str_dict, kb_str_float, kb_str_set, kb_tuple_bool, kb_tuple_int, kb_tuple_str, kb_tuple_tuple, kb_tuple_list, kb_tuple_dict, kb_tuple_float, kb_tuple_set, kb_list_bool, kb_list_int, kb_list_str, kb_list_tuple, kb_list_list, kb_list_dict, kb_list_float, kb_list_set, kb_dict_bool, kb_dict_int, kb_dict_str, kb_dict_tuple, kb_dict_list, kb_dict_dict, kb_dict_float, kb_dict_set, PySem.sizeLine_eq, inS, notInS, inA, notInA, noDct, isInD, notInD, inB, flatD, eqF, eqD, neD, eqB, scalEq, isD, isNotD, isB, ofString_beq, ofString_inj, mChain, mAndV, mOrV, mNotV, mApp, kgI, mLcX, mLcC, mIter, anyOf, noOwn, loopC, wipeG, backG, aName, mYes, frz1, tupleD, mRange1, rangeD1, small62, rangeI_len]
theorem sumAD_ll {ls a0 : List D} {xs : List (List D)} (h : listsD ls = some xs) (hz : (a0 ++ xs.flatten).length ≤ 16777216) : sumAD [.lst ls, .lst a0] = some (.lst (a0 ++ xs.flatten)) := by
  unfold sumAD
  simp only [h, Option.bind_some]
  rw [if_pos hz]
theorem strsD_app (l m : List S) : strsD (l ++ m) = strsD l ++ strsD m := List.map_append
theorem named {v : D} {s d m : Nat} (q : QT names cols v s d m) : m ≤ 1000 → ∃ l, Nms names cols v l ∧ l.length ≤ m ∧ ∀ n, d + 3 ≤ n → ∃ z, callF n 15 [v] = .ret z [] ∧ strip z = .lst (strsD l) := by
  induction q with
  | none =>
    refine fun _ => ⟨[], .none, by simp, fun n hn => ?_⟩
    obtain ⟨j, rfl⟩ : ∃ j, n = j + 2 := ⟨n - 2, by omega⟩
    refine ⟨.lst [], ?_, rfl⟩
    have e := inner0 (n := j)
    rw [cf15]; unfold bd15
    simp [sSeq, sIf, sRetX, sSetX, sPut, sDrop, sRetO_eq, sRetN, sPass, sNil, mBin, mVal, mOwnIx, mOwnIxA, mOwn, mC, mTB, mAnd, mOr, mNot, mCB, mCons, mNil, mTup, mIf, mFree, mCall, mCallO, mIsi, mTru, mUn, mAndV, mOrV, mNotV, mSl, mPart, mNoPart, mCW, mMth, mPop, mOwnL, mStrip, getV_eq, getO_eq, ownL, asB, asI, optO, fin1, fnD, settleX_nil, settleX_cons, settles_nil, settle_nil, settle1_nil, settle_cons, settle1_cons, settles_cons, frz, free, frees, free1, ltD, gtD, leD, geD, ordD, intOf, absD, lenD, lenA, listW, ixD, ixA, L2.atI, L2.ixN, addD, subD, modD, fdvD, powD, Dl.intD, negD, strip_eq, isOwn_eq, truthD, isiD, tyOf, isAny, kt0, kb_NoneType_bool, kb_NoneType_int, kb_NoneType_str, kb_NoneType_tuple, kb_NoneType_list, kb_NoneType_dict, kb_NoneType_float, kb_NoneType_set, kb_bool_bool, kb_bool_int, kb_bool_str, kb_bool_tuple, kb_bool_list, kb_bool_dict, kb_bool_float, kb_bool_set, kb_int_bool, kb_int_int, kb_int_str, kb_int_tuple, kb_int_list, kb_int_dict, kb_int_float, kb_int_set, kb_str_bool, kb_str_int, kb_str_str, kb_str_tuple, kb_str_list, kb_str_dict, kb_str_float, kb_str_set, kb_tuple_bool, kb_tuple_int, kb_tuple_str, kb_tuple_tuple, kb_tuple_list, kb_tuple_dict, kb_tuple_float, kb_tuple_set, kb_list_bool, kb_list_int, kb_list_str, kb_list_tuple, kb_list_list, kb_list_dict, kb_list_float, kb_list_set, kb_dict_bool, kb_dict_int, kb_dict_str, kb_dict_tuple, kb_dict_list, kb_dict_dict, kb_dict_float, kb_dict_set, PySem.sizeLine_eq, inS, notInS, inA, notInA, noDct, isInD, notInD, inB, flatD, eqF, eqD, neD, eqB, scalEq, isD, isNotD, isB, ofString_beq, ofString_inj, mChain, mAndV, mOrV, mNotV, mApp, kgI, mLcX, mLcC, mIter, anyOf, noOwn, loopC, wipeG, backG, aName, mYes, frz1, tupleD, mRange1, rangeD1, small62, rangeI_len, e, sumAD, listsD]
  | @of t ht =>
    refine fun _ => ⟨[t], .of ht, by simp, fun n hn => ?_⟩
    obtain ⟨j, rfl⟩ : ∃ j, n = j + 1 := ⟨n - 1, by omega⟩
    refine ⟨.lst [.str t], ?_, rfl⟩
    rw [cf15]; unfold bd15
    simp [sSeq, sIf, sRetX, sSetX, sPut, sDrop, sRetO_eq, sRetN, sPass, sNil, mBin, mVal, mOwnIx, mOwnIxA, mOwn, mC, mTB, mAnd, mOr, mNot, mCB, mCons, mNil, mTup, mIf, mFree, mCall, mCallO, mIsi, mTru, mUn, mAndV, mOrV, mNotV, mSl, mPart, mNoPart, mCW, mMth, mPop, mOwnL, mStrip, getV_eq, getO_eq, ownL, asB, asI, optO, fin1, fnD, settleX_nil, settleX_cons, settles_nil, settle_nil, settle1_nil, settle_cons, settle1_cons, settles_cons, frz, free, frees, free1, ltD, gtD, leD, geD, ordD, intOf, absD, lenD, lenA, listW, ixD, ixA, L2.atI, L2.ixN, addD, subD, modD, fdvD, powD, Dl.intD, negD, strip_eq, isOwn_eq, truthD, isiD, tyOf, isAny, kt0, kb_NoneType_bool, kb_NoneType_int, kb_NoneType_str, kb_NoneType_tuple, kb_NoneType_list, kb_NoneType_dict, kb_NoneType_float, kb_NoneType_set, kb_bool_bool, kb_bool_int, kb_bool_str, kb_bool_tuple, kb_bool_list, kb_bool_dict, kb_bool_float, kb_bool_set, kb_int_bool, kb_int_int, kb_int_str, kb_int_tuple, kb_int_list, kb_int_dict, kb_int_float, kb_int_set, kb_str_bool, kb_str_int, kb_str_str, kb_str_tuple, kb_str_list, kb_str_dict, kb_str_float, kb_str_set, kb_tuple_bool, kb_tuple_int, kb_tuple_str, kb_tuple_tuple, kb_tuple_list, kb_tuple_dict, kb_tuple_float, kb_tuple_set, kb_list_bool, kb_list_int, kb_list_str, kb_list_tuple, kb_list_list, kb_list_dict, kb_list_float, kb_list_set, kb_dict_bool, kb_dict_int, kb_dict_str, kb_dict_tuple, kb_dict_list, kb_dict_dict, kb_dict_float, kb_dict_set, PySem.sizeLine_eq, inS, notInS, inA, notInA, noDct, isInD, notInD, inB, flatD, eqF, eqD, neD, eqB, scalEq, isD, isNotD, isB, ofString_beq, ofString_inj, mChain, mAndV, mOrV, mNotV, mApp, kgI]
  | @pair a b w s s' d d' m m' hw ha hb ia ib =>
    intro hm
    obtain ⟨la, a1, a2, a3⟩ := ia (by omega)
    obtain ⟨lb, b1, b2, b3⟩ := ib (by omega)
    obtain ⟨w1, l1, rfl, n1⟩ := ha.head
    obtain ⟨w2, l2, rfl, n2⟩ := hb.head
    refine ⟨la ++ lb, .pair hw a1 b1, by rw [List.length_append]; omega, fun n hn => ?_⟩
    obtain ⟨j, rfl⟩ : ∃ j, n = j + 2 := ⟨n - 2, by omega⟩
    obtain ⟨za, x1, x2⟩ := a3 (j + 1) (by omega)
    obtain ⟨zb, y1, y2⟩ := b3 (j + 1) (by omega)
    refine ⟨.lst (strsD (la ++ lb)), ?_, rfl⟩
    have e := inner3 (n := j) (w := w) (a := .str w1 :: l1) (b := .str w2 :: l2)
    have sm : sumAD [.lst [.lst (strsD la), .lst (strsD lb)], .lst []] = some (.lst (strsD (la ++ lb))) := by
      rw [sumAD_ll (xs := [strsD la, strsD lb]) rfl (by simp [strs_len]; omega), strsD_app]
      simp
    unfold tstL at n1 n2
    rw [strip_eq] at x2 y2
    have p3 : (0 : Int) < (l1.length : Int) + 1 := by omega
    have p4 : (0 : Int) < (l2.length : Int) + 1 := by omega
    simp only [List.mem_cons, List.not_mem_nil, or_false] at hw
    rw [cf15]; unfold bd15
    rcases hw with rfl | rfl | rfl | rfl <;> simp [sSeq, sIf, sRetX, sSetX, sPut, sDrop, sRetO_eq, sRetN, sPass, sNil, mBin, mVal, mOwnIx, mOwnIxA, mOwn, mC, mTB, mAnd, mOr, mNot, mCB, mCons, mNil, mTup, mIf, mFree, mCall, mCallO, mIsi, mTru, mUn, mAndV, mOrV, mNotV, mSl, mPart, mNoPart, mCW, mMth, mPop, mOwnL, mStrip, getV_eq, getO_eq, ownL, asB, asI, optO, fin1, fnD, settleX_nil, settleX_cons, settles_nil, settle_nil, settle1_nil, settle_cons, settle1_cons, settles_cons, frz, free, frees, free1, ltD, gtD, leD, geD, ordD, intOf, absD, lenD, lenA, listW, ixD, ixA, L2.atI, L2.ixN, addD, subD, modD, fdvD, powD, Dl.intD, negD, strip_eq, isOwn_eq, truthD, isiD, tyOf, isAny, kt0, kb_NoneType_bool, kb_NoneType_int, kb_NoneType_str, kb_NoneType_tuple, kb_NoneType_list, kb_NoneType_dict, kb_NoneType_float, kb_NoneType_set, kb_bool_bool, kb_bool_int, kb_bool_str, kb_bool_tuple, kb_bool_list, kb_bool_dict, kb_bool_float, kb_bool_set, kb_int_bool, kb_int_int, kb_int_str, kb_int_tuple, kb_int_list, kb_int_dict, kb_int_float, kb_int_set, kb_str_bool, kb_str_int, kb_str_str, kb_str_tuple, kb_str_list, kb_str_dict, kb_str_float, kb_str_set, kb_tuple_bool, kb_tuple_int, kb_tuple_str, kb_tuple_tuple, kb_tuple_list, kb_tuple_dict, kb_tuple_float, kb_tuple_set, kb_list_bool, kb_list_int, kb_list_str, kb_list_tuple, kb_list_list, kb_list_dict, kb_list_float, kb_list_set, kb_dict_bool, kb_dict_int, kb_dict_str, kb_dict_tuple, kb_dict_list, kb_dict_dict, kb_dict_float, kb_dict_set, e, x1, x2, y1, y2, sm, n1, n2, p3, p4, eqD, eqB, scalEq, ofString_beq, ofString_inj, PySem.sizeLine_eq, mLcX, mLcC, mIter, anyOf, noOwn, loopC, wipeG, backG, aName, mYes, frz1]
  | @times a k s d m ha h0 h9 ia =>
    intro hm
    obtain ⟨la, a1, a2, a3⟩ := ia (by omega)
    obtain ⟨w1, l1, rfl, n1⟩ := ha.head
    refine ⟨la, .one (by simp) a1, by omega, fun n hn => ?_⟩
    obtain ⟨j, rfl⟩ : ∃ j, n = j + 2 := ⟨n - 2, by omega⟩
    obtain ⟨za, x1, x2⟩ := a3 (j + 1) (by omega)
    refine ⟨.lst (strsD la), ?_, rfl⟩
    have e := inner2 (n := j) (w := "times") (a := .str w1 :: l1) (k := k)
    have sm : sumAD [.lst [.lst (strsD la)], .lst []] = some (.lst (strsD la)) := by
      rw [sumAD_ll (xs := [strsD la]) rfl (by simp [strs_len]; omega)]
      simp
    unfold tstL at n1
    rw [strip_eq] at x2
    have p3 : (0 : Int) < (l1.length : Int) + 1 := by omega
    rw [cf15]; unfold bd15
    simp [sSeq, sIf, sRetX, sSetX, sPut, sDrop, sRetO_eq, sRetN, sPass, sNil, mBin, mVal, mOwnIx, mOwnIxA, mOwn, mC, mTB, mAnd, mOr, mNot, mCB, mCons, mNil, mTup, mIf, mFree, mCall, mCallO, mIsi, mTru, mUn, mAndV, mOrV, mNotV, mSl, mPart, mNoPart, mCW, mMth, mPop, mOwnL, mStrip, getV_eq, getO_eq, ownL, asB, asI, optO, fin1, fnD, settleX_nil, settleX_cons, settles_nil, settle_nil, settle1_nil, settle_cons, settle1_cons, settles_cons, frz, free, frees, free1, ltD, gtD, leD, geD, ordD, intOf, absD, lenD, lenA, listW, ixD, ixA, L2.atI, L2.ixN, addD, subD, modD, fdvD, powD, Dl.intD, negD, strip_eq, isOwn_eq, truthD, isiD, tyOf, isAny, kt0, kb_NoneType_bool, kb_NoneType_int, kb_NoneType_str, kb_NoneType_tuple, kb_NoneType_list, kb_NoneType_dict, kb_NoneType_float, kb_NoneType_set, kb_bool_bool, kb_bool_int, kb_bool_str, kb_bool_tuple, kb_bool_list, kb_bool_dict, kb_bool_float, kb_bool_set, kb_int_bool, kb_int_int, kb_int_str, kb_int_tuple, kb_int_list, kb_int_dict, kb_int_float, kb_int_set, kb_str_bool, kb_str_int, kb_str_str, kb_str_tuple, kb_str_list, kb_str_dict, kb_str_float, kb_str_set, kb_tuple_bool, kb_tuple_int, kb_tuple_str, kb_tuple_tuple, kb_tuple_list, kb_tuple_dict, kb_tuple_float, kb_tuple_set, kb_list_bool, kb_list_int, kb_list_str, kb_list_tuple, kb_list_list, kb_list_dict, kb_list_float, kb_list_set, kb_dict_bool, kb_dict_int, kb_dict_str, kb_dict_tuple, kb_dict_list, kb_dict_dict, kb_dict_float, kb_dict_set, e, x1, x2, sm, n1, p3, eqD, eqB, scalEq, ofString_beq, ofString_inj, PySem.sizeLine_eq, mLcX, mLcC, mIter, anyOf, noOwn, loopC, wipeG, backG, aName, mYes, frz1]
  | @wher a t w s s' d d' m m' hw ha ht ia =>
    intro hm
    obtain ⟨la, a1, a2, a3⟩ := ia (by omega)
    obtain ⟨w1, l1, rfl, n1⟩ := ha.head
    obtain ⟨w2, l2, rfl, n2⟩ := ht.head
    refine ⟨la, .one (by simp only [List.mem_cons, List.not_mem_nil, or_false] at hw ⊢; exact .inr hw) a1, by omega, fun n hn => ?_⟩
    obtain ⟨j, rfl⟩ : ∃ j, n = j + 2 := ⟨n - 2, by omega⟩
    obtain ⟨za, x1, x2⟩ := a3 (j + 1) (by omega)
    refine ⟨.lst (strsD la), ?_, rfl⟩
    have e := inner3 (n := j) (w := w) (a := .str w1 :: l1) (b := .str w2 :: l2)
    have sm : sumAD [.lst [.lst (strsD la)], .lst []] = some (.lst (strsD la)) := by
      rw [sumAD_ll (xs := [strsD la]) rfl (by simp [strs_len]; omega)]
      simp
    unfold tstL at n1 n2
    rw [strip_eq] at x2
    have p3 : (0 : Int) < (l1.length : Int) + 1 := by omega
    have p4 : (0 : Int) < (l2.length : Int) + 1 := by omega
    simp only [List.mem_cons, List.not_mem_nil, or_false] at hw
    rw [cf15]; unfold bd15
    rcases hw with rfl | rfl <;> simp [sSeq, sIf, sRetX, sSetX, sPut, sDrop, sRetO_eq, sRetN, sPass, sNil, mBin, mVal, mOwnIx, mOwnIxA, mOwn, mC, mTB, mAnd, mOr, mNot, mCB, mCons, mNil, mTup, mIf, mFree, mCall, mCallO, mIsi, mTru, mUn, mAndV, mOrV, mNotV, mSl, mPart, mNoPart, mCW, mMth, mPop, mOwnL, mStrip, getV_eq, getO_eq, ownL, asB, asI, optO, fin1, fnD, settleX_nil, settleX_cons, settles_nil, settle_nil, settle1_nil, settle_cons, settle1_cons, settles_cons, frz, free, frees, free1, ltD, gtD, leD, geD, ordD, intOf, absD, lenD, lenA, listW, ixD, ixA, L2.atI, L2.ixN, addD, subD, modD, fdvD, powD, Dl.intD, negD, strip_eq, isOwn_eq, truthD, isiD, tyOf, isAny, kt0, kb_NoneType_bool, kb_NoneType_int, kb_NoneType_str, kb_NoneType_tuple, kb_NoneType_list, kb_NoneType_dict, kb_NoneType_float, kb_NoneType_set, kb_bool_bool, kb_bool_int, kb_bool_str, kb_bool_tuple, kb_bool_list, kb_bool_dict, kb_bool_float, kb_bool_set, kb_int_bool, kb_int_int, kb_int_str, kb_int_tuple, kb_int_list, kb_int_dict, kb_int_float, kb_int_set, kb_str_bool, kb_str_int, kb_str_str, kb_str_tuple, kb_str_list, kb_str_dict, kb_str_float, kb_str_set, kb_tuple_bool, kb_tuple_int, kb_tuple_str, kb_tuple_tuple, kb_tuple_list, kb_tuple_dict, kb_tuple_float, kb_tuple_set, kb_list_bool, kb_list_int, kb_list_str, kb_list_tuple, kb_list_list, kb_list_dict, kb_list_float, kb_list_set, kb_dict_bool, kb_dict_int, kb_dict_str, kb_dict_tuple, kb_dict_list, kb_dict_dict, kb_dict_float, kb_dict_set, e, x1, x2, sm, n1, n2, p3, p4, eqD, eqB, scalEq, ofString_beq, ofString_inj, PySem.sizeLine_eq, mLcX, mLcC, mIter, anyOf, noOwn, loopC, wipeG, backG, aName, mYes, frz1]
end Lw
set_option maxHeartbeats 0
/-! L04w: k04, names_in. -/
namespace Lw
open Dl
variable {cols names tb : List S}
theorem str_ok2 {w : S} (l : List S) (h : w ∈ l) (hl : l.all (fun c => PySem.PyData.strOk c) = true) : PySem.PyData.strOk w = true := List.all_eq_true.mp hl w h
theorem small_log {k : Int} (h1 : -(10 ^ 30) ≤ k) (h2 : k ≤ 10 ^ 30) : k.natAbs.log2 < 1920 := Nat.lt_of_lt_of_le (log2_lt' (x := k.natAbs) (k := 100) (by omega) (by omega)) (by omega)
theorem TT.data (okc : SOk cols) {v : D} {s d m : Nat} (q : TT cols v s d m) : Dl.rok v = true ∧ rdp v ≤ d + 1 := by
  induction q with
  | cmp hw hc h1 h2 =>
    refine ⟨?_, by simp [rdp, rdps]⟩
    have a := str_ok2 _ hw (by decide +kernel)
    have b := okc.ok _ hc
    have c := small_log h1 h2
    simp [Dl.rok, roks, a, b, c]
  | nul hc =>
    refine ⟨?_, by simp [rdp, rdps]⟩
    have a : PySem.PyData.strOk ("null" : S) = true := by decide +kernel
    have b := okc.ok _ hc
    simp [Dl.rok, roks, a, b]
  | not ht ih =>
    have a : PySem.PyData.strOk ("not" : S) = true := by decide +kernel
    refine ⟨by simp [Dl.rok, roks, a, ih.1], ?_⟩
    simp [rdp, rdps]
    omega
  | bin hw ha hb ia ib =>
    have a := str_ok2 _ hw (by decide +kernel)
    refine ⟨by simp [Dl.rok, roks, a, ia.1, ib.1], ?_⟩
    simp [rdp, rdps]
    omega
theorem QT.data (okn : SOk names) (okc : SOk cols) {v : D} {s d m : Nat} (q : QT names cols v s d m) : Dl.rok v = true ∧ rdp v ≤ d + 1 := by
  induction q with
  | none =>
    have a : PySem.PyData.strOk ("none" : S) = true := by decide +kernel
    exact ⟨by simp [Dl.rok, roks, a], by decide⟩
  | of ht =>
    have a : PySem.PyData.strOk ("of" : S) = true := by decide +kernel
    have b := okn.ok _ ht
    exact ⟨by simp [Dl.rok, roks, a, b], by simp [rdp, rdps]⟩
  | pair hw ha hb ia ib =>
    have a := str_ok2 _ hw (by decide +kernel)
    refine ⟨by simp [Dl.rok, roks, a, ia.1, ib.1], ?_⟩
    simp [rdp, rdps]
    omega
  | @times a k s d m ha h0 h9 ia =>
    have a : PySem.PyData.strOk ("times" : S) = true := by decide +kernel
    have c := small_log (k := k) (by omega) (by omega)
    refine ⟨by simp [Dl.rok, roks, a, ia.1, c], ?_⟩
    simp [rdp, rdps]
    omega
  | wher hw ha ht ia =>
    have a := str_ok2 _ hw (by decide +kernel)
    have it := ht.data okc
    refine ⟨by simp [Dl.rok, roks, a, ia.1, it.1], ?_⟩
    simp [rdp, rdps]
    omega
/-! while by a measure -/
theorem whileS_by {c : M Bool} {body : MS} (P : Nat → Env → Prop) (h0 : ∀ Γ, P 0 Γ → c Γ = .ok false Γ) (h1 : ∀ μ Γ, P (μ + 1) Γ → c Γ = .ok true Γ ∧ ∃ Γ' μ', body Γ = .next Γ' ∧ μ' ≤ μ ∧ P μ' Γ') : ∀ (n μ : Nat) (Γ : Env), P μ Γ → μ < n → ∃ Γ', whileS c body n Γ = .next Γ' ∧ P 0 Γ'
  | 0, _, _, _, h => absurd h (Nat.not_lt_zero _)
  | n + 1, 0, Γ, p, _ => ⟨Γ, by unfold whileS; rw [h0 Γ p]; rfl, p⟩
  | n + 1, μ + 1, Γ, p, h => by
    obtain ⟨e1, Γ', μ', e2, l, p'⟩ := h1 μ Γ p
    obtain ⟨Γ'', e3, p''⟩ := whileS_by P h0 h1 n μ' Γ' p' (by omega)
    refine ⟨Γ'', ?_, p''⟩
    unfold whileS
    rw [e1]
    simp only [Out.thenS_ok, if_true, e2]
    exact e3
/-! the line of what is to be looked at -/
inductive LQ (names cols : List S) : List D → List S → Nat → Prop
  | nil : LQ names cols [] [] 0
  | snoc {line : List D} {ls l : List S} {v : D} {μ s d m : Nat} : LQ names cols line ls μ → QT names cols v s d m → d ≤ 50 → Nms names cols v l → LQ names cols (line ++ [v]) (ls ++ l) (μ + m)
theorem LQ.data (okn : SOk names) (okc : SOk cols) {line : List D} {ls : List S} {μ : Nat} (h : LQ names cols line ls μ) : roks line = true ∧ rdps line ≤ 60 ∧ line.length ≤ μ := by
  have app : ∀ (l : List D) (v : D), roks (l ++ [v]) = (roks l && Dl.rok v) ∧ rdps (l ++ [v]) = max (rdps l) (rdp v) := by
    intro l v
    induction l with
    | nil => exact ⟨by simp [roks], by simp [rdps]⟩
    | cons x l ih => exact ⟨by simp [roks, ih.1, Bool.and_assoc], by simp [rdps, ih.2, Nat.max_assoc]⟩
  induction h with
  | nil => exact ⟨rfl, by decide, by simp⟩
  | @snoc line ls l v μ s d m hl q hd hn ih =>
    obtain ⟨a1, a2⟩ := app line v
    obtain ⟨b1, b2⟩ := q.data okn okc
    have m1 : 1 ≤ m := by cases q <;> omega
    refine ⟨by rw [a1, ih.1, b1]; rfl, by rw [a2]; omega, by rw [List.length_append, List.length_singleton]; omega⟩
/-! the found ones -/
theorem keysT_app : ∀ (l : List (L2.Key × D)) (t : S) (v : D) {K : List S}, keysT l = some K → keysT (l ++ [(.inr t, v)]) = some (K ++ [t])
  | [], t, v, K, e => by cases e; rfl
  | (.inl i, x) :: l, t, v, K, e => by cases e
  | (.inr y, x) :: l, t, v, K, e => by
    obtain ⟨K', e1, rfl⟩ := Option.map_eq_some_iff.mp (show (keysT l).map (y :: ·) = some K from e)
    show (keysT (l ++ _)).map (y :: ·) = _
    rw [keysT_app l t v e1]
    rfl
theorem keysT_map : ∀ (l : List (L2.Key × D)) (k : L2.Key) (v : D), keysT (l.map fun p => if p.1 = k then (p.1, v) else p) = keysT l
  | [], _, _ => rfl
  | (.inl i, x) :: l, k, v => by
    rw [List.map_cons]
    by_cases h : (Sum.inl i : L2.Key) = k
    · simp only [h, if_true]
      cases k with
      | inl j => rfl
      | inr y => cases h
    · simp only [h, if_false]
      rfl
  | (.inr y, x) :: l, k, v => by
    rw [List.map_cons]
    have ih := keysT_map l k v
    by_cases h : (Sum.inr y : L2.Key) = k
    · subst h
      simp only [if_true]
      show (keysT _).map (y :: ·) = (keysT l).map (y :: ·)
      rw [ih]
    · simp only [h, if_false]
      show (keysT _).map (y :: ·) = (keysT l).map (y :: ·)
      rw [ih]
theorem keysT_any : ∀ {l : List (L2.Key × D)} {K : List S} (t : S), keysT l = some K → (l.any fun p => decide (p.1 = .inr t)) = decide (t ∈ K)
  | [], K, t, e => by cases e; rfl
  | (.inl i, x) :: l, K, t, e => by cases e
  | (.inr y, x) :: l, K, t, e => by
    obtain ⟨K', e1, rfl⟩ := Option.map_eq_some_iff.mp (show (keysT l).map (y :: ·) = some K from e)
    rw [List.any_cons, keysT_any t e1]
    by_cases h : y = t
    · subst h; simp
    · have h' : ¬ t = y := fun z => h z.symm
      simp [h, h']
theorem keysT_put {l : List (L2.Key × D)} {K : List S} (t : S) (v : D) (e : keysT l = some K) : keysT (putD l (.inr t) v) = some (ddK K t) := by
  unfold putD ddK
  rw [keysT_any t e]
  by_cases h : t ∈ K
  · rw [if_pos (decide_eq_true h), if_pos h, keysT_map, e]
  · rw [if_neg (by simpa using h), if_neg h, keysT_app l t v e]
theorem keysT_len : ∀ {l : List (L2.Key × D)} {K : List S}, keysT l = some K → l.length = K.length
  | [], K, e => by cases e; rfl
  | (.inl i, x) :: l, K, e => by cases e
  | (.inr y, x) :: l, K, e => by
    obtain ⟨K', e1, rfl⟩ := Option.map_eq_some_iff.mp (show (keysT l).map (y :: ·) = some K from e)
    rw [List.length_cons, List.length_cons, keysT_len e1]
abbrev condM : M Bool := (mTB (mBin neD (mOwn 2) (mStrip (mOwnL mNil))))
abbrev bodyM : MS := (sSeq (sSetX 3 [] (mPop 2))
  (sIf (mTB (mBin eqD (mBin ixA (mVal 3) (mC (.int 0))) (mC c_OF)))
  (sPutK 1 [] (mC (.bl true)) (mBin ixA (mVal 3) (mC (.int 1))))
  (sIf (mTB (mBin neD (mBin ixA (mVal 3) (mC (.int 0))) (mC c_NONE)))
  (sSeq (sDrop (mMth 2 [] effAppend (mCons (mBin ixA (mVal 3) (mC (.int 1))) mNil)))
  (sIf (mTB (mBin inA (mBin ixA (mVal 3) (mC (.int 0))) (mC c_PAIRS)))
  (sDrop (mMth 2 [] effAppend (mCons (mBin ixA (mVal 3) (mC (.int 2))) mNil)))
  sNil))
  sNil)))
theorem pop_last (l : List D) (v : D) : (l ++ [v])[(l ++ [v]).length - 1]? = some v := by simp
/-- one turn -/
theorem turn_of {q : D} {F : List (L2.Key × D)} {line : List D} {a3 : Option D} {t : S} (hF : F.length < 16777216) : bodyM [some q, some (.own (.dct F)), some (.own (.lst (line ++ [.tup [.str "of", .str t]]))), a3] = .next [some q, some (.own (.dct (putD F (.inr t) (.bl true)))), some (.own (.lst line)), some (.tup [.str "of", .str t])] := by
  unfold bodyM
  have h := pop_last line (.tup [.str "of", .str t])
  simp [sSeq, sIf, sRetX, sSetX, sPut, sDrop, sRetO_eq, sRetN, sPass, sNil, mBin, mVal, mOwnIx, mOwnIxA, mOwn, mC, mTB, mAnd, mOr, mNot, mCB, mCons, mNil, mTup, mIf, mFree, mCall, mCallO, mIsi, mTru, mUn, mAndV, mOrV, mNotV, mSl, mPart, mNoPart, mCW, mMth, mPop, mOwnL, mStrip, getV_eq, getO_eq, ownL, asB, asI, optO, fin1, fnD, settleX_nil, settleX_cons, settles_nil, settle_nil, settle1_nil, settle_cons, settle1_cons, settles_cons, frz, free, frees, free1, ltD, gtD, leD, geD, ordD, intOf, absD, lenD, lenA, listW, ixD, ixA, L2.atI, L2.ixN, addD, subD, modD, fdvD, powD, Dl.intD, negD, strip_eq, isOwn_eq, truthD, isiD, tyOf, isAny, kt0, kb_NoneType_bool, kb_NoneType_int, kb_NoneType_str, kb_NoneType_tuple, kb_NoneType_list, kb_NoneType_dict, kb_NoneType_float, kb_NoneType_set, kb_bool_bool, kb_bool_int, kb_bool_str, kb_bool_tuple, kb_bool_list, kb_bool_dict, kb_bool_float, kb_bool_set, kb_int_bool, kb_int_int, kb_int_str, kb_int_tuple, kb_int_list, kb_int_dict, kb_int_float, kb_int_set, kb_str_bool, kb_str_int, kb_str_str, kb_str_tuple, kb_str_list, kb_str_dict, kb_str_float, kb_str_set, kb_tuple_bool, kb_tuple_int, kb_tuple_str, kb_tuple_tuple, kb_tuple_list, kb_tuple_dict, kb_tuple_float, kb_tuple_set, kb_list_bool, kb_list_int, kb_list_str, kb_list_tuple, kb_list_list, kb_list_dict, kb_list_float, kb_list_set, kb_dict_bool, kb_dict_int, kb_dict_str, kb_dict_tuple, kb_dict_list, kb_dict_dict, kb_dict_float, kb_dict_set, PySem.sizeLine_eq, inS, notInS, inA, notInA, noDct, isInD, notInD, inB, flatD, eqF, eqD, neD, eqB, scalEq, isD, isNotD, isB, ofString_beq, ofString_inj, mChain, mAndV, mOrV, mNotV, mApp, kgI, mPop, ownL, sPutK, ownT, keyD, hF]
theorem turn_none {q : D} {F : List (L2.Key × D)} {line : List D} {a3 : Option D} : bodyM [some q, some (.own (.dct F)), some (.own (.lst (line ++ [.tup [.str "none"]]))), a3] = .next [some q, some (.own (.dct F)), some (.own (.lst line)), some (.tup [.str "none"])] := by
  unfold bodyM
  simp [sSeq, sIf, sRetX, sSetX, sPut, sDrop, sRetO_eq, sRetN, sPass, sNil, mBin, mVal, mOwnIx, mOwnIxA, mOwn, mC, mTB, mAnd, mOr, mNot, mCB, mCons, mNil, mTup, mIf, mFree, mCall, mCallO, mIsi, mTru, mUn, mAndV, mOrV, mNotV, mSl, mPart, mNoPart, mCW, mMth, mPop, mOwnL, mStrip, getV_eq, getO_eq, ownL, asB, asI, optO, fin1, fnD, settleX_nil, settleX_cons, settles_nil, settle_nil, settle1_nil, settle_cons, settle1_cons, settles_cons, frz, free, frees, free1, ltD, gtD, leD, geD, ordD, intOf, absD, lenD, lenA, listW, ixD, ixA, L2.atI, L2.ixN, addD, subD, modD, fdvD, powD, Dl.intD, negD, strip_eq, isOwn_eq, truthD, isiD, tyOf, isAny, kt0, kb_NoneType_bool, kb_NoneType_int, kb_NoneType_str, kb_NoneType_tuple, kb_NoneType_list, kb_NoneType_dict, kb_NoneType_float, kb_NoneType_set, kb_bool_bool, kb_bool_int, kb_bool_str, kb_bool_tuple, kb_bool_list, kb_bool_dict, kb_bool_float, kb_bool_set, kb_int_bool, kb_int_int, kb_int_str, kb_int_tuple, kb_int_list, kb_int_dict, kb_int_float, kb_int_set, kb_str_bool, kb_str_int, kb_str_str, kb_str_tuple, kb_str_list, kb_str_dict, kb_str_float, kb_str_set, kb_tuple_bool, kb_tuple_int, kb_tuple_str, kb_tuple_tuple, kb_tuple_list, kb_tuple_dict, kb_tuple_float, kb_tuple_set, kb_list_bool, kb_list_int, kb_list_str, kb_list_tuple, kb_list_list, kb_list_dict, kb_list_float, kb_list_set, kb_dict_bool, kb_dict_int, kb_dict_str, kb_dict_tuple, kb_dict_list, kb_dict_dict, kb_dict_float, kb_dict_set, PySem.sizeLine_eq, inS, notInS, inA, notInA, noDct, isInD, notInD, inB, flatD, eqF, eqD, neD, eqB, scalEq, isD, isNotD, isB, ofString_beq, ofString_inj, mChain, mAndV, mOrV, mNotV, mApp, kgI, mPop, ownL]
theorem turn_pair {q : D} {F : List (L2.Key × D)} {line : List D} {a3 : Option D} {w : S} {a b : D} (hw : w ∈ (["plus", "both", "either", "rest"] : List S)) (oa : isOwnD a = false) (ob : isOwnD b = false) (hl : line.length < 10000) :
    bodyM [some q, some (.own (.dct F)), some (.own (.lst (line ++ [.tup [.str w, a, b]]))), a3] = .next [some q, some (.own (.dct F)), some (.own (.lst (line ++ [a] ++ [b]))), some (.tup [.str w, a, b])] := by
  unfold bodyM
  have l1 : line.length < 16777216 := by omega
  have l2 : line.length + 1 < 16777216 := by omega
  simp only [List.mem_cons, List.not_mem_nil, or_false] at hw
  rcases hw with rfl | rfl | rfl | rfl <;> simp [sSeq, sIf, sRetX, sSetX, sPut, sDrop, sRetO_eq, sRetN, sPass, sNil, mBin, mVal, mOwnIx, mOwnIxA, mOwn, mC, mTB, mAnd, mOr, mNot, mCB, mCons, mNil, mTup, mIf, mFree, mCall, mCallO, mIsi, mTru, mUn, mAndV, mOrV, mNotV, mSl, mPart, mNoPart, mCW, mMth, mPop, mOwnL, mStrip, getV_eq, getO_eq, ownL, asB, asI, optO, fin1, fnD, settleX_nil, settleX_cons, settles_nil, settle_nil, settle1_nil, settle_cons, settle1_cons, settles_cons, frz, free, frees, free1, ltD, gtD, leD, geD, ordD, intOf, absD, lenD, lenA, listW, ixD, ixA, L2.atI, L2.ixN, addD, subD, modD, fdvD, powD, Dl.intD, negD, strip_eq, isOwn_eq, truthD, isiD, tyOf, isAny, kt0, kb_NoneType_bool, kb_NoneType_int, kb_NoneType_str, kb_NoneType_tuple, kb_NoneType_list, kb_NoneType_dict, kb_NoneType_float, kb_NoneType_set, kb_bool_bool, kb_bool_int, kb_bool_str, kb_bool_tuple, kb_bool_list, kb_bool_dict, kb_bool_float, kb_bool_set, kb_int_bool, kb_int_int, kb_int_str, kb_int_tuple, kb_int_list, kb_int_dict, kb_int_float, kb_int_set, kb_str_bool, kb_str_int, kb_str_str, kb_str_tuple, kb_str_list, kb_str_dict, kb_str_float, kb_str_set, kb_tuple_bool, kb_tuple_int, kb_tuple_str, kb_tuple_tuple, kb_tuple_list, kb_tuple_dict, kb_tuple_float, kb_tuple_set, kb_list_bool, kb_list_int, kb_list_str, kb_list_tuple, kb_list_list, kb_list_dict, kb_list_float, kb_list_set, kb_dict_bool, kb_dict_int, kb_dict_str, kb_dict_tuple, kb_dict_list, kb_dict_dict, kb_dict_float, kb_dict_set, PySem.sizeLine_eq, inS, notInS, inA, notInA, noDct, isInD, notInD, inB, flatD, eqF, eqD, neD, eqB, scalEq, isD, isNotD, isB, ofString_beq, ofString_inj, mChain, mAndV, mOrV, mNotV, mApp, kgI, mPop, ownL, effAppend, oa, ob, l1, l2]
theorem turn_one {q : D} {F : List (L2.Key × D)} {line : List D} {a3 : Option D} {w : S} {a b : D} (hw : w ∈ (["times", "where", "unless"] : List S)) (oa : isOwnD a = false) (hl : line.length < 10000) :
    bodyM [some q, some (.own (.dct F)), some (.own (.lst (line ++ [.tup [.str w, a, b]]))), a3] = .next [some q, some (.own (.dct F)), some (.own (.lst (line ++ [a]))), some (.tup [.str w, a, b])] := by
  unfold bodyM
  have l1 : line.length < 16777216 := by omega
  simp only [List.mem_cons, List.not_mem_nil, or_false] at hw
  rcases hw with rfl | rfl | rfl <;> simp [sSeq, sIf, sRetX, sSetX, sPut, sDrop, sRetO_eq, sRetN, sPass, sNil, mBin, mVal, mOwnIx, mOwnIxA, mOwn, mC, mTB, mAnd, mOr, mNot, mCB, mCons, mNil, mTup, mIf, mFree, mCall, mCallO, mIsi, mTru, mUn, mAndV, mOrV, mNotV, mSl, mPart, mNoPart, mCW, mMth, mPop, mOwnL, mStrip, getV_eq, getO_eq, ownL, asB, asI, optO, fin1, fnD, settleX_nil, settleX_cons, settles_nil, settle_nil, settle1_nil, settle_cons, settle1_cons, settles_cons, frz, free, frees, free1, ltD, gtD, leD, geD, ordD, intOf, absD, lenD, lenA, listW, ixD, ixA, L2.atI, L2.ixN, addD, subD, modD, fdvD, powD, Dl.intD, negD, strip_eq, isOwn_eq, truthD, isiD, tyOf, isAny, kt0, kb_NoneType_bool, kb_NoneType_int, kb_NoneType_str, kb_NoneType_tuple, kb_NoneType_list, kb_NoneType_dict, kb_NoneType_float, kb_NoneType_set, kb_bool_bool, kb_bool_int, kb_bool_str, kb_bool_tuple, kb_bool_list, kb_bool_dict, kb_bool_float, kb_bool_set, kb_int_bool, kb_int_int, kb_int_str, kb_int_tuple, kb_int_list, kb_int_dict, kb_int_float, kb_int_set, kb_str_bool, kb_str_int, kb_str_str, kb_str_tuple, kb_str_list, kb_str_dict, kb_str_float, kb_str_set, kb_tuple_bool, kb_tuple_int, kb_tuple_str, kb_tuple_tuple, kb_tuple_list, kb_tuple_dict, kb_tuple_float, kb_tuple_set, kb_list_bool, kb_list_int, kb_list_str, kb_list_tuple, kb_list_list, kb_list_dict, kb_list_float, kb_list_set, kb_dict_bool, kb_dict_int, kb_dict_str, kb_dict_tuple, kb_dict_list, kb_dict_dict, kb_dict_float, kb_dict_set, PySem.sizeLine_eq, inS, notInS, inA, notInA, noDct, isInD, notInD, inB, flatD, eqF, eqD, neD, eqB, scalEq, isD, isNotD, isB, ofString_beq, ofString_inj, mChain, mAndV, mOrV, mNotV, mApp, kgI, mPop, ownL, effAppend, oa, l1]
end Lw
set_option maxHeartbeats 0
/-! L04v: k04, names_in against the law's. -/
namespace Lw
open Dl
variable {cols names tb : List S}
theorem QT.pos {v : D} {s d m : Nat} (q : QT names cols v s d m) : 1 ≤ m := by cases q <;> omega
structure NmI (names cols : List S) (q : D) (L : List S) (μ0 : Nat) (μ : Nat) (Γ : Env) : Prop where
  ex : ∃ F line a3 K ls, Γ = [some q, some (.own (.dct F)), some (.own (.lst line)), a3] ∧ keysT F = some K ∧ K.Nodup ∧ LQ names cols line ls μ ∧ (∀ t, t ∈ L ↔ t ∈ K ∨ t ∈ ls) ∧ K.length + μ ≤ μ0
theorem LQ.inv {line : List D} {ls : List S} {μ : Nat} (h : LQ names cols line ls (μ + 1)) : ∃ l' ls' v l μ' s d m, line = l' ++ [v] ∧ ls = ls' ++ l ∧ μ + 1 = μ' + m ∧ LQ names cols l' ls' μ' ∧ QT names cols v s d m ∧ d ≤ 50 ∧ Nms names cols v l := by
  generalize e : μ + 1 = x at h
  cases h with
  | nil => cases e
  | snoc h1 h2 h3 h4 => exact ⟨_, _, _, _, _, _, _, _, rfl, rfl, rfl, h1, h2, h3, h4⟩
theorem LQ.zero {line : List D} {ls : List S} (h : LQ names cols line ls 0) : line = [] ∧ ls = [] := by
  generalize e : 0 = x at h
  cases h with
  | nil => exact ⟨rfl, rfl⟩
  | snoc h1 h2 h3 h4 =>
    have := h2.pos
    omega
theorem LQ.le {line : List D} {ls : List S} {μ : Nat} (h : LQ names cols line ls μ) : line.length ≤ μ := by
  induction h with
  | nil => simp
  | snoc _ q _ _ ih =>
    have := q.pos
    rw [List.length_append, List.length_singleton]
    omega
theorem loop_names (okn : SOk names) (okc : SOk cols) {q : D} {L : List S} {μ0 : Nat} (hμ : μ0 ≤ 1000) : ∀ (n μ : Nat) (Γ : Env), NmI names cols q L μ0 μ Γ → μ < n → ∃ Γ', whileS condM bodyM n Γ = .next Γ' ∧ NmI names cols q L μ0 0 Γ' := by
  refine whileS_by (NmI names cols q L μ0) (fun Γ h => ?_) fun μ Γ h => ?_
  · obtain ⟨F, line, a3, K, ls, rfl, hF, nd, hl, hm, hs⟩ := h
    obtain ⟨rfl, rfl⟩ := hl.zero
    have ne : neD (.lst []) (.lst []) = some (.bl false) := ne_empty (l := []) rfl (by decide)
    unfold condM
    simp [sSeq, sIf, sRetX, sSetX, sPut, sDrop, sRetO_eq, sRetN, sPass, sNil, mBin, mVal, mOwnIx, mOwnIxA, mOwn, mC, mTB, mAnd, mOr, mNot, mCB, mCons, mNil, mTup, mIf, mFree, mCall, mCallO, mIsi, mTru, mUn, mAndV, mOrV, mNotV, mSl, mPart, mNoPart, mCW, mMth, mPop, mOwnL, mStrip, getV_eq, getO_eq, ownL, asB, asI, optO, fin1, fnD, settleX_nil, settleX_cons, settles_nil, settle_nil, settle1_nil, settle_cons, settle1_cons, settles_cons, frz, free, frees, free1, ltD, gtD, leD, geD, ordD, intOf, absD, lenD, lenA, listW, ixD, ixA, L2.atI, L2.ixN, addD, subD, modD, fdvD, powD, Dl.intD, negD, strip_eq, isOwn_eq, truthD, isiD, tyOf, isAny, kt0, kb_NoneType_bool, kb_NoneType_int, kb_NoneType_str, kb_NoneType_tuple, kb_NoneType_list, kb_NoneType_dict, kb_NoneType_float, kb_NoneType_set, kb_bool_bool, kb_bool_int, kb_bool_str, kb_bool_tuple, kb_bool_list, kb_bool_dict, kb_bool_float, kb_bool_set, kb_int_bool, kb_int_int, kb_int_str, kb_int_tuple, kb_int_list, kb_int_dict, kb_int_float, kb_int_set, kb_str_bool, kb_str_int, kb_str_str, kb_str_tuple, kb_str_list, kb_str_dict, kb_str_float, kb_str_set, kb_tuple_bool, kb_tuple_int, kb_tuple_str, kb_tuple_tuple, kb_tuple_list, kb_tuple_dict, kb_tuple_float, kb_tuple_set, kb_list_bool, kb_list_int, kb_list_str, kb_list_tuple, kb_list_list, kb_list_dict, kb_list_float, kb_list_set, kb_dict_bool, kb_dict_int, kb_dict_str, kb_dict_tuple, kb_dict_list, kb_dict_dict, kb_dict_float, kb_dict_set, ne, PySem.sizeLine_eq]
  · obtain ⟨F, line, a3, K, ls, rfl, hF, nd, hl, hm, hs⟩ := h
    obtain ⟨r1, r2, r3⟩ := hl.data okn okc
    obtain ⟨l', ls', v, l, μ', s, d, m, rfl, rfl, eμ, h1, hq, hd, hn⟩ := hl.inv
    have ne : neD (.lst (l' ++ [v])) (.lst []) = some (.bl true) := by
      rw [ne_empty r1 r2]
      cases l' <;> rfl
    have fl := keysT_len hF
    have ll := h1.le
    have m1 := hq.pos
    refine ⟨by unfold condM; simp [sSeq, sIf, sRetX, sSetX, sPut, sDrop, sRetO_eq, sRetN, sPass, sNil, mBin, mVal, mOwnIx, mOwnIxA, mOwn, mC, mTB, mAnd, mOr, mNot, mCB, mCons, mNil, mTup, mIf, mFree, mCall, mCallO, mIsi, mTru, mUn, mAndV, mOrV, mNotV, mSl, mPart, mNoPart, mCW, mMth, mPop, mOwnL, mStrip, getV_eq, getO_eq, ownL, asB, asI, optO, fin1, fnD, settleX_nil, settleX_cons, settles_nil, settle_nil, settle1_nil, settle_cons, settle1_cons, settles_cons, frz, free, frees, free1, ltD, gtD, leD, geD, ordD, intOf, absD, lenD, lenA, listW, ixD, ixA, L2.atI, L2.ixN, addD, subD, modD, fdvD, powD, Dl.intD, negD, strip_eq, isOwn_eq, truthD, isiD, tyOf, isAny, kt0, kb_NoneType_bool, kb_NoneType_int, kb_NoneType_str, kb_NoneType_tuple, kb_NoneType_list, kb_NoneType_dict, kb_NoneType_float, kb_NoneType_set, kb_bool_bool, kb_bool_int, kb_bool_str, kb_bool_tuple, kb_bool_list, kb_bool_dict, kb_bool_float, kb_bool_set, kb_int_bool, kb_int_int, kb_int_str, kb_int_tuple, kb_int_list, kb_int_dict, kb_int_float, kb_int_set, kb_str_bool, kb_str_int, kb_str_str, kb_str_tuple, kb_str_list, kb_str_dict, kb_str_float, kb_str_set, kb_tuple_bool, kb_tuple_int, kb_tuple_str, kb_tuple_tuple, kb_tuple_list, kb_tuple_dict, kb_tuple_float, kb_tuple_set, kb_list_bool, kb_list_int, kb_list_str, kb_list_tuple, kb_list_list, kb_list_dict, kb_list_float, kb_list_set, kb_dict_bool, kb_dict_int, kb_dict_str, kb_dict_tuple, kb_dict_list, kb_dict_dict, kb_dict_float, kb_dict_set, ne, PySem.sizeLine_eq], ?_⟩
    have memA : ∀ (x y : List S) (t : S), t ∈ x ++ y ↔ t ∈ x ∨ t ∈ y := fun x y t => List.mem_append
    cases hn with
    | none => exact ⟨_, μ', turn_none, by omega, ⟨F, l', _, K, ls', rfl, hF, nd, h1, by simpa using hm, by omega⟩⟩
    | @of t ht =>
      refine ⟨_, μ', turn_of (by omega), by omega, ⟨_, l', _, ddK K t, ls', rfl, keysT_put t _ hF, ddK_nd nd, h1, fun x => ?_, by have := ddK_len K t; omega⟩⟩
      rw [hm, ddK_mem, memA, List.mem_singleton]
      constructor
      · rintro (h | h | h)
        · exact .inl (.inl h)
        · exact .inr h
        · exact .inl (.inr h)
      · rintro ((h | h) | h)
        · exact .inl h
        · exact .inr (.inr h)
        · exact .inr (.inl h)
    | @pair a b w la lb hw ha hb =>
      cases hq with
      | @pair _ _ _ s1 s2 d1 d2 m1' m2' hw' qa qb =>
        refine ⟨_, μ' + m1' + m2', turn_pair hw qa.own qb.own (by omega), by omega, ⟨F, _, _, K, (ls' ++ la) ++ lb, rfl, hF, nd, .snoc (.snoc h1 qa (by omega) ha) qb (by omega) hb, fun x => ?_, by omega⟩⟩
        rw [hm, memA, memA, memA, memA]
        constructor
        · rintro (h | h | h | h) <;> simp [h]
        · rintro (h | (h | h) | h) <;> simp [h]
      | wher hw' qa qt => simp only [List.mem_cons, List.not_mem_nil, or_false] at hw hw'; rcases hw with rfl | rfl | rfl | rfl <;> rcases hw' with e | e <;> exact absurd (ofString_inj.mp e) (by decide)
      | times qa h0 h9 => simp only [List.mem_cons, List.not_mem_nil, or_false] at hw; rcases hw with e | e | e | e <;> exact absurd (ofString_inj.mp e) (by decide)
    | @one a c w la hw ha =>
      cases hq with
      | pair hw' qa qb => simp only [List.mem_cons, List.not_mem_nil, or_false] at hw hw'; rcases hw with rfl | rfl | rfl <;> rcases hw' with e | e | e | e <;> exact absurd (ofString_inj.mp e) (by decide)
      | @wher _ _ _ s1 s2 d1 d2 m1' m2' hw' qa qt =>
        refine ⟨_, μ' + m1', turn_one hw qa.own (by omega), by omega, ⟨F, _, _, K, ls' ++ l, rfl, hF, nd, .snoc h1 qa (by omega) ha, hm, by omega⟩⟩
      | @times _ k s1 d1 m1' qa h0 h9 =>
        refine ⟨_, μ' + m1', turn_one hw qa.own (by omega), by omega, ⟨F, _, _, K, ls' ++ l, rfl, hF, nd, .snoc h1 qa (by omega) ha, hm, by omega⟩⟩
theorem perm_of_nodup : ∀ {l m : List S}, l.Nodup → m.Nodup → (∀ t, t ∈ l ↔ t ∈ m) → l.Perm m := fun h1 h2 h => (List.perm_ext_iff_of_nodup h1 h2).mpr h
theorem srtS_set {l m : List S} (h1 : l.Nodup) (h2 : m.Nodup) (h : ∀ t, t ∈ l ↔ t ∈ m) : srtS l = srtS m :=
  srtS_one ((srtS_perm l).trans ((perm_of_nodup h1 h2 h).trans (srtS_perm m).symm)) (srtS_pw l) (srtS_pw m)
theorem bd3_eq (cf : Nat → List D → OutF) : bd3 cf = sSeq (sParX [1, 2] (mCons (mC (.own (.dct []))) (mCons (mOwnL (mCons (mVal 0) mNil)) mNil))) (sSeq (sWhile (fun _ => 1000000) condM bodyM) (sRetX [1] (mCB tupleD (mCons (mCB sortedAD (mCons (mOwn 1) mNil)) mNil)))) := rfl
/-- names_in -/
theorem names_in (okn : SOk names) (okc : SOk cols) {q : D} {s d m : Nat} {L : List S} (h : QT names cols q s d m) (hd : d ≤ 50) (hm : m ≤ 60) (hn : Nms names cols q L) : ∀ n, 1 ≤ n → callF n 3 [q] = .ret (.tup (strsD (srtS (ddL L)))) [] := by
  intro n hn1
  obtain ⟨j, rfl⟩ : ∃ j, n = j + 1 := ⟨n - 1, by omega⟩
  have start : NmI names cols q L m m [some q, some (.own (.dct [])), some (.own (.lst [q])), none] := by
    have := LQ.snoc (LQ.nil (names := names) (cols := cols)) h hd hn
    rw [Nat.zero_add] at this
    exact ⟨[], [q], none, [], L, rfl, rfl, List.nodup_nil, this, fun t => by simp, by simp⟩
  obtain ⟨Γ', e, F, line, a3, K, ls, rfl, hF, nd, hl, hmm, hs⟩ := loop_names okn okc (by omega) 1000000 m _ start (by omega)
  obtain ⟨rfl, rfl⟩ := hl.zero
  have ks : srtS K = srtS (ddL L) := srtS_set nd (ddL_nd L) fun t => by rw [ddL_mem, hmm]; simp
  have so : sortedAD [.dct F] = some (.lst (strsD (srtS (ddL L)))) := by
    show (sortD (.dct F)).map _ = _
    unfold sortD
    simp only [hF, Option.bind_some]
    rw [if_pos (by omega), ks]
    rfl
  have fr : frees (strsD (srtS (ddL L))) = true := by
    generalize srtS (ddL L) = l
    induction l with
    | nil => rfl
    | cons x l ih => exact ih
  have oq := h.own
  rw [cf3, bd3_eq]
  have s1 : sParX [1, 2] (mCons (mC (.own (.dct []))) (mCons (mOwnL (mCons (mVal 0) mNil)) mNil)) ([q].map some ++ List.replicate 3 none) = .next [some q, some (.own (.dct [])), some (.own (.lst [q])), none] := by
    simp [sSeq, sIf, sRetX, sSetX, sPut, sDrop, sRetO_eq, sRetN, sPass, sNil, mBin, mVal, mOwnIx, mOwnIxA, mOwn, mC, mTB, mAnd, mOr, mNot, mCB, mCons, mNil, mTup, mIf, mFree, mCall, mCallO, mIsi, mTru, mUn, mAndV, mOrV, mNotV, mSl, mPart, mNoPart, mCW, mMth, mPop, mOwnL, mStrip, getV_eq, getO_eq, ownL, asB, asI, optO, fin1, fnD, settleX_nil, settleX_cons, settles_nil, settle_nil, settle1_nil, settle_cons, settle1_cons, settles_cons, frz, free, frees, free1, ltD, gtD, leD, geD, ordD, intOf, absD, lenD, lenA, listW, ixD, ixA, L2.atI, L2.ixN, addD, subD, modD, fdvD, powD, Dl.intD, negD, strip_eq, isOwn_eq, truthD, isiD, tyOf, isAny, kt0, kb_NoneType_bool, kb_NoneType_int, kb_NoneType_str, kb_NoneType_tuple, kb_NoneType_list, kb_NoneType_dict, kb_NoneType_float, kb_NoneType_set, kb_bool_bool, kb_bool_int, kb_bool_str, kb_bool_tuple, kb_bool_list, kb_bool_dict, kb_bool_float, kb_bool_set, kb_int_bool, kb_int_int, kb_int_str, kb_int_tuple, kb_int_list, kb_int_dict, kb_int_float, kb_int_set, kb_str_bool, kb_str_int, kb_str_str, kb_str_tuple, kb_str_list, kb_str_dict, kb_str_float, kb_str_set, kb_tuple_bool, kb_tuple_int, kb_tuple_str, kb_tuple_tuple, kb_tuple_list, kb_tuple_dict, kb_tuple_float, kb_tuple_set, kb_list_bool, kb_list_int, kb_list_str, kb_list_tuple, kb_list_list, kb_list_dict, kb_list_float, kb_list_set, kb_dict_bool, kb_dict_int, kb_dict_str, kb_dict_tuple, kb_dict_list, kb_dict_dict, kb_dict_float, kb_dict_set, sParX, setAll, oq, PySem.sizeLine_eq]
  have s2 : sWhile (fun _ => 1000000) condM bodyM [some q, some (.own (.dct [])), some (.own (.lst [q])), none] = .next [some q, some (.own (.dct F)), some (.own (.lst [])), a3] := e
  unfold fnD
  rw [if_pos (show [q].length = 1 from rfl), sSeq_next s1, sSeq_next s2]
  simp [sSeq, sIf, sRetX, sSetX, sPut, sDrop, sRetO_eq, sRetN, sPass, sNil, mBin, mVal, mOwnIx, mOwnIxA, mOwn, mC, mTB, mAnd, mOr, mNot, mCB, mCons, mNil, mTup, mIf, mFree, mCall, mCallO, mIsi, mTru, mUn, mAndV, mOrV, mNotV, mSl, mPart, mNoPart, mCW, mMth, mPop, mOwnL, mStrip, getV_eq, getO_eq, ownL, asB, asI, optO, fin1, fnD, settleX_nil, settleX_cons, settles_nil, settle_nil, settle1_nil, settle_cons, settle1_cons, settles_cons, frz, free, frees, free1, ltD, gtD, leD, geD, ordD, intOf, absD, lenD, lenA, listW, ixD, ixA, L2.atI, L2.ixN, addD, subD, modD, fdvD, powD, Dl.intD, negD, strip_eq, isOwn_eq, truthD, isiD, tyOf, isAny, kt0, kb_NoneType_bool, kb_NoneType_int, kb_NoneType_str, kb_NoneType_tuple, kb_NoneType_list, kb_NoneType_dict, kb_NoneType_float, kb_NoneType_set, kb_bool_bool, kb_bool_int, kb_bool_str, kb_bool_tuple, kb_bool_list, kb_bool_dict, kb_bool_float, kb_bool_set, kb_int_bool, kb_int_int, kb_int_str, kb_int_tuple, kb_int_list, kb_int_dict, kb_int_float, kb_int_set, kb_str_bool, kb_str_int, kb_str_str, kb_str_tuple, kb_str_list, kb_str_dict, kb_str_float, kb_str_set, kb_tuple_bool, kb_tuple_int, kb_tuple_str, kb_tuple_tuple, kb_tuple_list, kb_tuple_dict, kb_tuple_float, kb_tuple_set, kb_list_bool, kb_list_int, kb_list_str, kb_list_tuple, kb_list_list, kb_list_dict, kb_list_float, kb_list_set, kb_dict_bool, kb_dict_int, kb_dict_str, kb_dict_tuple, kb_dict_list, kb_dict_dict, kb_dict_float, kb_dict_set, so, tupleD, fr]
theorem strs_mapM : ∀ l : List S, (strsD l).mapM strOf = some l
  | [] => rfl
  | x :: l => by
    show ((D.str x) :: strsD l).mapM strOf = _
    rw [List.mapM_cons]
    show (some x).bind _ = _
    rw [Option.bind_some, strs_mapM l]
    rfl
theorem sortSet_strs {l : List S} (h : l.length ≤ 4000) : sortSetD (.lst (strsD l)) = some (.lst (strsD (srtS (ddL l)))) := by
  unfold sortSetD
  simp only [strs_len, h, if_true]
  cases l with
  | nil => rfl
  | cons x l =>
    have e : intsD (strsD (x :: l)) = none := rfl
    simp only [e, strs_mapM, Option.map_some]
    rfl
theorem srt_ok' (okn : SOk names) {L : List S} (h : ∀ t ∈ L, t ∈ names) : rok (.tup (strsD (srtS (ddL L)))) = true ∧ rdp (.tup (strsD (srtS (ddL L)))) ≤ 60 := by
  refine ⟨roks_strs fun c hc => ?_, ?_⟩
  · exact okn.ok c (h c (ddL_mem.mp ((srtS_perm _).mem_iff.mp hc)))
  · show rdps _ + 1 ≤ 60
    rw [rdps_strs]
    omega
end Lw
set_option maxHeartbeats 0
/-! L04t: k04, tables of drawn values; how long a question's repr is. -/
namespace Lw
open Dl
variable {cols names tb : List S}
theorem valK_map (k c : L2.Key) (v : D) : ∀ l : List (L2.Key × D), c ≠ k → valK (l.map fun p => if p.1 = k then (p.1, v) else p) c = valK l c
  | [], _ => rfl
  | (a, d) :: l, h => by
    rw [List.map_cons]
    have ih := valK_map k c v l h
    by_cases e : a = k
    · subst e
      simp only [if_true]
      rw [valK_cons, valK_cons, if_neg (fun z => h z.symm), if_neg (fun z => h z.symm), ih]
    · simp only [e, if_false]
      rw [valK_cons, valK_cons, ih]
theorem valK_map_self (k : L2.Key) (v : D) : ∀ l : List (L2.Key × D), (l.any fun p => decide (p.1 = k)) = true → valK (l.map fun p => if p.1 = k then (p.1, v) else p) k = some v
  | [], h => by cases h
  | (a, d) :: l, h => by
    rw [List.map_cons]
    by_cases e : a = k
    · subst e
      simp only [if_true]
      rw [valK_cons, if_pos rfl]
    · simp only [e, if_false]
      rw [valK_cons, if_neg e]
      refine valK_map_self k v l ?_
      rw [List.any_cons] at h
      simpa [e] using h
theorem valK_app (k c : L2.Key) (v : D) : ∀ l : List (L2.Key × D), valK (l ++ [(k, v)]) c = if (l.any fun p => decide (p.1 = c)) = true then valK l c else if k = c then some v else none
  | [] => by rw [List.nil_append, valK_cons]; rfl
  | (a, d) :: l => by
    rw [List.cons_append, valK_cons, valK_cons, valK_app k c v l, List.any_cons]
    by_cases e : a = c
    · rw [if_pos e, if_pos e, decide_eq_true e, Bool.true_or, if_pos rfl]
    · rw [if_neg e, if_neg e, decide_eq_false e, Bool.false_or]
theorem valK_no {c : L2.Key} : ∀ {l : List (L2.Key × D)}, (l.any fun p => decide (p.1 = c)) = false → valK l c = none
  | [], _ => rfl
  | (a, d) :: l, h => by
    rw [List.any_cons, Bool.or_eq_false_iff] at h
    rw [valK_cons, if_neg (of_decide_eq_false h.1), valK_no h.2]
theorem valK_put (l : List (L2.Key × D)) (k c : L2.Key) (v : D) : valK (putD l k v) c = if c = k then some v else valK l c := by
  unfold putD
  by_cases h : (l.any fun p => decide (p.1 = k)) = true
  · rw [if_pos h]
    by_cases e : c = k
    · subst e
      rw [if_pos rfl, valK_map_self c v l h]
    · rw [if_neg e, valK_map k c v l e]
  · rw [if_neg h, valK_app]
    by_cases e : c = k
    · subst e
      rw [if_neg h, if_pos rfl, if_pos rfl]
    · rw [if_neg e]
      by_cases g : (l.any fun p => decide (p.1 = c)) = true
      · rw [if_pos g]
      · rw [if_neg g, if_neg (fun z => e z.symm), valK_no (Bool.eq_false_iff.mpr g)]
theorem table2' {P : S → D → Prop} : ∀ {l : List S} {ys : List D}, Two (fun a y => ∃ c v, a = .str c ∧ y = .tup [a, v] ∧ P c v) (strsD l) ys → ∃ kds, kvD ys = some kds ∧ ∀ (acc : List (L2.Key × D)) (K : List S), keysT acc = some K →
    keysT (mergeD acc kds) = some (l.foldl ddK K) ∧ ∀ c, (c ∉ l → valK (mergeD acc kds) (.inr c) = valK acc (.inr c)) ∧ (c ∈ l → ∃ v, valK (mergeD acc kds) (.inr c) = some v ∧ P c v)
  | [], _, .nil => ⟨[], rfl, fun acc K h => ⟨h, fun c => ⟨fun _ => rfl, fun h => nomatch h⟩⟩⟩
  | a :: l, _, .cons h t => by
    obtain ⟨c0, v, e0, rfl, hv⟩ := h
    injection e0 with e0
    subst e0
    obtain ⟨kds, e, hk⟩ := table2' t
    refine ⟨(.inr a, v) :: kds, ?_, fun acc K hacc => ?_⟩
    · show (keyD (.str a)).bind _ = _
      simp only [keyD, Option.bind_some, e, Option.map_some]
    · obtain ⟨h1, h2⟩ := hk (putD acc (.inr a) v) (ddK K a) (keysT_put a v hacc)
      refine ⟨h1, fun c => ⟨fun n => ?_, fun n => ?_⟩⟩
      · show valK (mergeD (putD acc (.inr a) v) kds) _ = _
        rw [(h2 c).1 (fun z => n (List.mem_cons_of_mem _ z)), valK_put, if_neg]
        intro z
        injection z with z
        exact n (z ▸ List.mem_cons_self)
      · show ∃ v', valK (mergeD (putD acc (.inr a) v) kds) _ = _ ∧ _
        by_cases g : c ∈ l
        · exact (h2 c).2 g
        · rcases List.mem_cons.mp n with rfl | n
          · rw [(h2 c).1 g, valK_put, if_pos rfl]
            exact ⟨v, rfl, hv⟩
          · exact (g n).elim
theorem table2 {P : S → D → Prop} {l : List S} {ys : List D} (h : Two (fun a y => ∃ c v, a = .str c ∧ y = .tup [a, v] ∧ P c v) (strsD l) ys) : ∃ t, dictD [.lst ys] = some (.dct t) ∧ keysT t = some (ddL l) ∧ ∀ c, (c ∉ l → valK t (.inr c) = none) ∧ (c ∈ l → ∃ v, valK t (.inr c) = some v ∧ P c v) := by
  obtain ⟨kds, e, hk⟩ := table2' h
  obtain ⟨h1, h2⟩ := hk [] [] rfl
  refine ⟨mergeD [] kds, ?_, h1, h2⟩
  show (kvD ys).map _ = _
  rw [e]; rfl
theorem keysL_T : ∀ {t : List (L2.Key × D)} {K : List S}, keysT t = some K → keysL t = strsD K
  | [], K, e => by cases e; rfl
  | (.inl i, x) :: l, K, e => by cases e
  | (.inr y, x) :: l, K, e => by
    obtain ⟨K', e1, rfl⟩ := Option.map_eq_some_iff.mp (show (keysT l).map (y :: ·) = some K from e)
    have := keysL_T e1
    unfold keysL at this ⊢
    rw [List.map_cons, this]
    rfl
theorem slen {w : S} (l : List S) (h : w ∈ l) (hl : l.all (fun c => decide (c.length ≤ 8)) = true) : w.length ≤ 8 := of_decide_eq_true (List.all_eq_true.mp hl w h)
theorem TT.wt (hc8 : ∀ c ∈ cols, c.length ≤ 8) {v : D} {s d m : Nat} (q : TT cols v s d m) : rwt v ≤ 2200 * m := by
  induction q with
  | cmp hw hc h1 h2 =>
    have a := slen _ hw (by decide +kernel)
    have b := hc8 _ hc
    simp [rwt, rwts]
    omega
  | nul hc =>
    have a : ("null" : S).length ≤ 8 := by decide +kernel
    have b := hc8 _ hc
    simp [rwt, rwts]
    omega
  | not ht ih =>
    have a : ("not" : S).length ≤ 8 := by decide +kernel
    simp [rwt, rwts]
    omega
  | bin hw ha hb ia ib =>
    have a := slen _ hw (by decide +kernel)
    simp [rwt, rwts]
    omega
theorem QT.wt (hn8 : ∀ c ∈ names, c.length ≤ 8) (hc8 : ∀ c ∈ cols, c.length ≤ 8) {v : D} {s d m : Nat} (q : QT names cols v s d m) : rwt v ≤ 2200 * m := by
  induction q with
  | none =>
    have a : ("none" : S).length ≤ 8 := by decide +kernel
    simp [rwt, rwts]
    omega
  | of ht =>
    have a : ("of" : S).length ≤ 8 := by decide +kernel
    have b := hn8 _ ht
    simp [rwt, rwts]
    omega
  | pair hw ha hb ia ib =>
    have a := slen _ hw (by decide +kernel)
    simp [rwt, rwts]
    omega
  | times ha h0 h9 ia =>
    have a : ("times" : S).length ≤ 8 := by decide +kernel
    simp [rwt, rwts]
    omega
  | wher hw ha ht ia =>
    have a := slen _ hw (by decide +kernel)
    have b := ht.wt hc8
    simp [rwt, rwts]
    omega
end Lw
set_option maxHeartbeats 0
/-! L04c: k04, the law: names, question. -/
namespace Lw
open Dl
variable {cs : List Int} {k : Int} {pen : D} {cols names tb : List S}
def G (ns : List Int) (pen : D) (a2 a3 a4 a5 a6 a7 a8 a9 a10 a11 a12 : Option D) : Env := [some (.scr ns), some (.own pen), a2, a3, a4, a5, a6, a7, a8, a9, a10, a11, a12, none, none, none]
abbrev nmM (cf : Nat → List D → OutF) : MS := (sSetX 3 [] (mStrip (mCallO 1 [] (cf 8) (mCons (mC (.int 8)) mNil))))
abbrev spM (cf : Nat → List D → OutF) : MS := (sAsg [] (mTup (mCons (mSl (mVal 3) mNoPart (mPart (mC (.int 3)))) (mCons (mSl (mVal 3) (mPart (mC (.int 3))) (mPart (mC (.int 5)))) (mCons (mSl (mVal 3) (mPart (mC (.int 5))) (mPart (mBin addD (mC (.int 5)) (mStrip (mCallO 1 [] (cf 6) (mCons (mC (.int 3)) mNil)))))) mNil)))) (aTup 3 (aCons (aName 10) (aCons (aName 11) (aCons (aName 12) aNil)))))
abbrev quM (cf : Nat → List D → OutF) : MS := (sSetX 4 [] (mStrip (mCallO 1 [] (cf 11) (mCons (mBin addD (mVal 10) (mVal 11)) (mCons (mVal 12) (mCons (mC (.int 4)) mNil))))))
abbrev naM (cf : Nat → List D → OutF) : MS := (sIf (mOr (mTB (mBin neD (mStrip (mCall (cf 3) (mCons (mVal 4) mNil))) (mCB tupleD (mCons (mSortSet (mStrip (mCall (cf 15) (mCons (mVal 4) mNil)))) mNil)))) (mTB (mBin neD (mStrip (mCall (cf 3) (mApp (kgI kg0) mNil (mCons (mVal 4) mNil)))) (mStrip (mCall (cf 3) (mCons (mVal 4) mNil))))))
  (sRetX [] (mC (.bl false)))
  sNil)
/-- the names of one turn -/
structure NN (ta st co : List S) : Prop where
  t3 : ta.length = 3
  s2 : st.length = 2
  c2 : co.length ≤ 2
  ok : SOk (ta ++ st)
  okc : SOk co
  n8 : ∀ c ∈ ta ++ st, c.length ≤ 8
  c8 : ∀ c ∈ co, c.length ≤ 8
theorem nm_st {n : Nat} {ns : List Int} {a2 a3 a4 a5 a6 a7 a8 a9 a10 a11 a12 : Option D} (O : PenOk ns) (h : Pn ns k pen) (hk : k ≤ 1000000) : ∃ ta st co pen' b3, NN ta st co ∧ Pn ns (k + 4) pen' ∧
    (sSeq (nmM (callF (n + 3))) (spM (callF (n + 3)))) (G ns pen a2 a3 a4 a5 a6 a7 a8 a9 a10 a11 a12) = .next (G ns pen' a2 b3 a4 a5 a6 a7 a8 a9 (some (.lst (strsD ta))) (some (.lst (strsD st))) (some (.lst (strsD co)))) := by
  obtain ⟨l, p1, e1, h1, hl, okl⟩ := Lw.names (n := n) O h (by omega)
  have e1' : nmM (callF (n + 3)) (G ns pen a2 a3 a4 a5 a6 a7 a8 a9 a10 a11 a12) = .next (G ns p1 a2 (some (.lst (strsD l))) a4 a5 a6 a7 a8 a9 a10 a11 a12) := by
    unfold G
    simp [sSeq, sIf, sRetX, sSetX, sPut, sDrop, sRetO_eq, sRetN, sPass, sNil, mBin, mVal, mOwnIx, mOwnIxA, mOwn, mC, mTB, mAnd, mOr, mNot, mCB, mCons, mNil, mTup, mIf, mFree, mCall, mCallO, mIsi, mTru, mUn, mAndV, mOrV, mNotV, mSl, mPart, mNoPart, mCW, mMth, mPop, mOwnL, mStrip, getV_eq, getO_eq, ownL, asB, asI, optO, fin1, fnD, settleX_nil, settleX_cons, settles_nil, settle_nil, settle1_nil, settle_cons, settle1_cons, settles_cons, frz, free, frees, free1, ltD, gtD, leD, geD, ordD, intOf, absD, lenD, lenA, listW, ixD, ixA, L2.atI, L2.ixN, addD, subD, modD, fdvD, powD, Dl.intD, negD, strip_eq, isOwn_eq, truthD, isiD, tyOf, isAny, kt0, kb_NoneType_bool, kb_NoneType_int, kb_NoneType_str, kb_NoneType_tuple, kb_NoneType_list, kb_NoneType_dict, kb_NoneType_float, kb_NoneType_set, kb_bool_bool, kb_bool_int, kb_bool_str, kb_bool_tuple, kb_bool_list, kb_bool_dict, kb_bool_float, kb_bool_set, kb_int_bool, kb_int_int, kb_int_str, kb_int_tuple, kb_int_list, kb_int_dict, kb_int_float, kb_int_set, kb_str_bool, kb_str_int, kb_str_str, kb_str_tuple, kb_str_list, kb_str_dict, kb_str_float, kb_str_set, kb_tuple_bool, kb_tuple_int, kb_tuple_str, kb_tuple_tuple, kb_tuple_list, kb_tuple_dict, kb_tuple_float, kb_tuple_set, kb_list_bool, kb_list_int, kb_list_str, kb_list_tuple, kb_list_list, kb_list_dict, kb_list_float, kb_list_set, kb_dict_bool, kb_dict_int, kb_dict_str, kb_dict_tuple, kb_dict_list, kb_dict_dict, kb_dict_float, kb_dict_set, e1]
  rw [sSeq_next e1']
  obtain ⟨r, p2, e2, h2, r0, r1⟩ := draw (n := n + 2) (many := 3) O h1 (by omega) (by omega)
  have r1 := r1 (by omega)
  match l, hl, okl with
  | [n0, n1, n2, n3, n4, n5, n6, n7], _, okl =>
    have sub : ∀ {m : List S}, (∀ c ∈ m, c ∈ [n0, n1, n2, n3, n4, n5, n6, n7]) → SOk m ∧ ∀ c ∈ m, c.length ≤ 8 := fun hm => ⟨⟨fun c hc => okl.ok.ok c (hm c hc)⟩, fun c hc => okl.len c (hm c hc)⟩
    have s1 := sub (m := [n0, n1, n2] ++ [n3, n4]) (by simp)
    have rr : r = 0 ∨ r = 1 ∨ r = 2 := by omega
    rcases rr with rfl | rfl | rfl
    · have s2 := sub (m := []) (by simp)
      refine ⟨[n0, n1, n2], [n3, n4], [], p2, some (.lst (strsD [n0, n1, n2, n3, n4, n5, n6, n7])), ⟨rfl, rfl, by simp, s1.1, s2.1, s1.2, s2.2⟩, h2.mono (by omega), ?_⟩
      unfold G
      simp [sSeq, sIf, sRetX, sSetX, sPut, sDrop, sRetO_eq, sRetN, sPass, sNil, mBin, mVal, mOwnIx, mOwnIxA, mOwn, mC, mTB, mAnd, mOr, mNot, mCB, mCons, mNil, mTup, mIf, mFree, mCall, mCallO, mIsi, mTru, mUn, mAndV, mOrV, mNotV, mSl, mPart, mNoPart, mCW, mMth, mPop, mOwnL, mStrip, getV_eq, getO_eq, ownL, asB, asI, optO, fin1, fnD, settleX_nil, settleX_cons, settles_nil, settle_nil, settle1_nil, settle_cons, settle1_cons, settles_cons, frz, free, frees, free1, ltD, gtD, leD, geD, ordD, intOf, absD, lenD, lenA, listW, ixD, ixA, L2.atI, L2.ixN, addD, subD, modD, fdvD, powD, Dl.intD, negD, strip_eq, isOwn_eq, truthD, isiD, tyOf, isAny, kt0, kb_NoneType_bool, kb_NoneType_int, kb_NoneType_str, kb_NoneType_tuple, kb_NoneType_list, kb_NoneType_dict, kb_NoneType_float, kb_NoneType_set, kb_bool_bool, kb_bool_int, kb_bool_str, kb_bool_tuple, kb_bool_list, kb_bool_dict, kb_bool_float, kb_bool_set, kb_int_bool, kb_int_int, kb_int_str, kb_int_tuple, kb_int_list, kb_int_dict, kb_int_float, kb_int_set, kb_str_bool, kb_str_int, kb_str_str, kb_str_tuple, kb_str_list, kb_str_dict, kb_str_float, kb_str_set, kb_tuple_bool, kb_tuple_int, kb_tuple_str, kb_tuple_tuple, kb_tuple_list, kb_tuple_dict, kb_tuple_float, kb_tuple_set, kb_list_bool, kb_list_int, kb_list_str, kb_list_tuple, kb_list_list, kb_list_dict, kb_list_float, kb_list_set, kb_dict_bool, kb_dict_int, kb_dict_str, kb_dict_tuple, kb_dict_list, kb_dict_dict, kb_dict_float, kb_dict_set, PySem.sizeLine_eq, inS, notInS, inA, notInA, noDct, isInD, notInD, inB, flatD, eqF, eqD, neD, eqB, scalEq, isD, isNotD, isB, ofString_beq, ofString_inj, mChain, mAndV, mOrV, mNotV, mApp, kgI, e2, sAsg, aTup, aCons, aName, aNil, strsD, slD, cutD, HT.sIx]
    · have s2 := sub (m := [n5]) (by simp)
      refine ⟨[n0, n1, n2], [n3, n4], [n5], p2, some (.lst (strsD [n0, n1, n2, n3, n4, n5, n6, n7])), ⟨rfl, rfl, by simp, s1.1, s2.1, s1.2, s2.2⟩, h2.mono (by omega), ?_⟩
      unfold G
      simp [sSeq, sIf, sRetX, sSetX, sPut, sDrop, sRetO_eq, sRetN, sPass, sNil, mBin, mVal, mOwnIx, mOwnIxA, mOwn, mC, mTB, mAnd, mOr, mNot, mCB, mCons, mNil, mTup, mIf, mFree, mCall, mCallO, mIsi, mTru, mUn, mAndV, mOrV, mNotV, mSl, mPart, mNoPart, mCW, mMth, mPop, mOwnL, mStrip, getV_eq, getO_eq, ownL, asB, asI, optO, fin1, fnD, settleX_nil, settleX_cons, settles_nil, settle_nil, settle1_nil, settle_cons, settle1_cons, settles_cons, frz, free, frees, free1, ltD, gtD, leD, geD, ordD, intOf, absD, lenD, lenA, listW, ixD, ixA, L2.atI, L2.ixN, addD, subD, modD, fdvD, powD, Dl.intD, negD, strip_eq, isOwn_eq, truthD, isiD, tyOf, isAny, kt0, kb_NoneType_bool, kb_NoneType_int, kb_NoneType_str, kb_NoneType_tuple, kb_NoneType_list, kb_NoneType_dict, kb_NoneType_float, kb_NoneType_set, kb_bool_bool, kb_bool_int, kb_bool_str, kb_bool_tuple, kb_bool_list, kb_bool_dict, kb_bool_float, kb_bool_set, kb_int_bool, kb_int_int, kb_int_str, kb_int_tuple, kb_int_list, kb_int_dict, kb_int_float, kb_int_set, kb_str_bool, kb_str_int, kb_str_str, kb_str_tuple, kb_str_list, kb_str_dict, kb_str_float, kb_str_set, kb_tuple_bool, kb_tuple_int, kb_tuple_str, kb_tuple_tuple, kb_tuple_list, kb_tuple_dict, kb_tuple_float, kb_tuple_set, kb_list_bool, kb_list_int, kb_list_str, kb_list_tuple, kb_list_list, kb_list_dict, kb_list_float, kb_list_set, kb_dict_bool, kb_dict_int, kb_dict_str, kb_dict_tuple, kb_dict_list, kb_dict_dict, kb_dict_float, kb_dict_set, PySem.sizeLine_eq, inS, notInS, inA, notInA, noDct, isInD, notInD, inB, flatD, eqF, eqD, neD, eqB, scalEq, isD, isNotD, isB, ofString_beq, ofString_inj, mChain, mAndV, mOrV, mNotV, mApp, kgI, e2, sAsg, aTup, aCons, aName, aNil, strsD, slD, cutD, HT.sIx]
    · have s2 := sub (m := [n5, n6]) (by simp)
      refine ⟨[n0, n1, n2], [n3, n4], [n5, n6], p2, some (.lst (strsD [n0, n1, n2, n3, n4, n5, n6, n7])), ⟨rfl, rfl, by simp, s1.1, s2.1, s1.2, s2.2⟩, h2.mono (by omega), ?_⟩
      unfold G
      simp [sSeq, sIf, sRetX, sSetX, sPut, sDrop, sRetO_eq, sRetN, sPass, sNil, mBin, mVal, mOwnIx, mOwnIxA, mOwn, mC, mTB, mAnd, mOr, mNot, mCB, mCons, mNil, mTup, mIf, mFree, mCall, mCallO, mIsi, mTru, mUn, mAndV, mOrV, mNotV, mSl, mPart, mNoPart, mCW, mMth, mPop, mOwnL, mStrip, getV_eq, getO_eq, ownL, asB, asI, optO, fin1, fnD, settleX_nil, settleX_cons, settles_nil, settle_nil, settle1_nil, settle_cons, settle1_cons, settles_cons, frz, free, frees, free1, ltD, gtD, leD, geD, ordD, intOf, absD, lenD, lenA, listW, ixD, ixA, L2.atI, L2.ixN, addD, subD, modD, fdvD, powD, Dl.intD, negD, strip_eq, isOwn_eq, truthD, isiD, tyOf, isAny, kt0, kb_NoneType_bool, kb_NoneType_int, kb_NoneType_str, kb_NoneType_tuple, kb_NoneType_list, kb_NoneType_dict, kb_NoneType_float, kb_NoneType_set, kb_bool_bool, kb_bool_int, kb_bool_str, kb_bool_tuple, kb_bool_list, kb_bool_dict, kb_bool_float, kb_bool_set, kb_int_bool, kb_int_int, kb_int_str, kb_int_tuple, kb_int_list, kb_int_dict, kb_int_float, kb_int_set, kb_str_bool, kb_str_int, kb_str_str, kb_str_tuple, kb_str_list, kb_str_dict, kb_str_float, kb_str_set, kb_tuple_bool, kb_tuple_int, kb_tuple_str, kb_tuple_tuple, kb_tuple_list, kb_tuple_dict, kb_tuple_float, kb_tuple_set, kb_list_bool, kb_list_int, kb_list_str, kb_list_tuple, kb_list_list, kb_list_dict, kb_list_float, kb_list_set, kb_dict_bool, kb_dict_int, kb_dict_str, kb_dict_tuple, kb_dict_list, kb_dict_dict, kb_dict_float, kb_dict_set, PySem.sizeLine_eq, inS, notInS, inA, notInA, noDct, isInD, notInD, inB, flatD, eqF, eqD, neD, eqB, scalEq, isD, isNotD, isB, ofString_beq, ofString_inj, mChain, mAndV, mOrV, mNotV, mApp, kgI, e2, sAsg, aTup, aCons, aName, aNil, strsD, slD, cutD, HT.sIx]
theorem NN.all5 {ta st co : List S} (N : NN ta st co) : (ta ++ st).length = 5 := by rw [List.length_append, N.t3, N.s2]
theorem qu_st {ns : List Int} {ta st co : List S} {a2 a3 a4 a5 a6 a7 a8 a9 : Option D} (O : PenOk ns) (N : NN ta st co) (h : Pn ns k pen) (hk : k ≤ 1000000) : ∃ q pen' s d m, QT (ta ++ st) co q s d m ∧ d ≤ 4 ∧ m ≤ 31 ∧ Pn ns (k + 250) pen' ∧
    quM (callF 59) (G ns pen a2 a3 a4 a5 a6 a7 a8 a9 (some (.lst (strsD ta))) (some (.lst (strsD st))) (some (.lst (strsD co)))) = .next (G ns pen' a2 a3 (some q) a5 a6 a7 a8 a9 (some (.lst (strsD ta))) (some (.lst (strsD st))) (some (.lst (strsD co)))) := by
  have l5 := N.all5
  obtain ⟨q, p3, s, d, m, e3, h3, hq, hd⟩ := question (names := ta ++ st) (cols := co) O N.okc (fun z => by rw [z] at l5; cases l5) (by omega) (by have := N.c2; omega) 4 59 k pen (by omega) (by omega) h (by omega)
  have oq := hq.own
  have hm : m ≤ 31 := by
    have := hq.many
    have : 2 ^ (d + 1) ≤ 2 ^ 5 := Nat.pow_le_pow_right (by omega) (by omega)
    omega
  have e3 : callF 59 11 [.own pen, .lst (strsD (ta ++ st)), .lst (strsD co), .int 4] = .ret q [some (.own p3)] := e3
  have hz : (strsD ta).length + (strsD st).length ≤ PySem.sizeLine := by rw [strs_len, strs_len, N.t3, N.s2, PySem.sizeLine_eq]; omega
  rw [strsD_app] at e3
  refine ⟨q, p3, s, d, m, hq, hd, hm, h3.mono (by omega), ?_⟩
  unfold G
  simp [sSeq, sIf, sRetX, sSetX, sPut, sDrop, sRetO_eq, sRetN, sPass, sNil, mBin, mVal, mOwnIx, mOwnIxA, mOwn, mC, mTB, mAnd, mOr, mNot, mCB, mCons, mNil, mTup, mIf, mFree, mCall, mCallO, mIsi, mTru, mUn, mAndV, mOrV, mNotV, mSl, mPart, mNoPart, mCW, mMth, mPop, mOwnL, mStrip, getV_eq, getO_eq, ownL, asB, asI, optO, fin1, fnD, settleX_nil, settleX_cons, settles_nil, settle_nil, settle1_nil, settle_cons, settle1_cons, settles_cons, frz, free, frees, free1, ltD, gtD, leD, geD, ordD, intOf, absD, lenD, lenA, listW, ixD, ixA, L2.atI, L2.ixN, addD, subD, modD, fdvD, powD, Dl.intD, negD, strip_eq, isOwn_eq, truthD, isiD, tyOf, isAny, kt0, kb_NoneType_bool, kb_NoneType_int, kb_NoneType_str, kb_NoneType_tuple, kb_NoneType_list, kb_NoneType_dict, kb_NoneType_float, kb_NoneType_set, kb_bool_bool, kb_bool_int, kb_bool_str, kb_bool_tuple, kb_bool_list, kb_bool_dict, kb_bool_float, kb_bool_set, kb_int_bool, kb_int_int, kb_int_str, kb_int_tuple, kb_int_list, kb_int_dict, kb_int_float, kb_int_set, kb_str_bool, kb_str_int, kb_str_str, kb_str_tuple, kb_str_list, kb_str_dict, kb_str_float, kb_str_set, kb_tuple_bool, kb_tuple_int, kb_tuple_str, kb_tuple_tuple, kb_tuple_list, kb_tuple_dict, kb_tuple_float, kb_tuple_set, kb_list_bool, kb_list_int, kb_list_str, kb_list_tuple, kb_list_list, kb_list_dict, kb_list_float, kb_list_set, kb_dict_bool, kb_dict_int, kb_dict_str, kb_dict_tuple, kb_dict_list, kb_dict_dict, kb_dict_float, kb_dict_set, e3, oq, hz]
theorem na_st {ns : List Int} {q : D} {s d m : Nat} {a2 a3 a5 a6 a7 a8 a9 a10 a11 a12 : Option D} (okn : SOk names) (okc : SOk cols) (hq : QT names cols q s d m) (hd : d ≤ 4) (hm : m ≤ 31) :
    naM (callF 59) (G ns pen a2 a3 (some q) a5 a6 a7 a8 a9 a10 a11 a12) = .next (G ns pen a2 a3 (some q) a5 a6 a7 a8 a9 a10 a11 a12) := by
  obtain ⟨l, hn, ll, hz⟩ := named hq (by omega)
  obtain ⟨z, e1, e2⟩ := hz 59 (by omega)
  have e3 := names_in okn okc hq (by omega) (by omega) hn 59 (by omega)
  have sub : ∀ t ∈ l, t ∈ names := by
    clear hz ll hm hd e1 e2 e3
    induction hn generalizing s d m with
    | none => simp
    | of ht => simpa using ht
    | pair hw ha hb ia ib => 
      cases hq with
      | pair _ qa qb => 
        intro t ht
        rcases List.mem_append.mp ht with h | h
        · exact ia qa t h
        · exact ib qb t h
      | wher hw' qa qt => simp only [List.mem_cons, List.not_mem_nil, or_false] at hw hw'; rcases hw with rfl | rfl | rfl | rfl <;> rcases hw' with e | e <;> exact absurd (ofString_inj.mp e) (by decide)
      | times qa h0 h9 => simp only [List.mem_cons, List.not_mem_nil, or_false] at hw; rcases hw with e | e | e | e <;> exact absurd (ofString_inj.mp e) (by decide)
    | one hw ha ia =>
      cases hq with
      | pair hw' qa qb => simp only [List.mem_cons, List.not_mem_nil, or_false] at hw hw'; rcases hw with rfl | rfl | rfl <;> rcases hw' with e | e | e | e <;> exact absurd (ofString_inj.mp e) (by decide)
      | wher hw' qa qt => exact ia qa
      | times qa h0 h9 => exact ia qa
  obtain ⟨r1, r2⟩ := srt_ok' okn sub
  have ne := ne_self r1 r2
  have so := sortSet_strs (l := l) (by omega)
  have oq := hq.own
  rw [strip_eq] at e2
  have tp : tupleD [.lst (strsD (srtS (ddL l)))] = some (.tup (strsD (srtS (ddL l)))) := rfl
  have oy : isOwnD (.tup (strsD (srtS (ddL l)))) = false := rfl
  generalize D.tup (strsD (srtS (ddL l))) = y at *
  generalize D.lst (strsD (srtS (ddL l))) = u at *
  generalize D.lst (strsD l) = w at *
  unfold G
  simp [sSeq, sIf, sRetX, sSetX, sPut, sDrop, sRetO_eq, sRetN, sPass, sNil, mBin, mVal, mOwnIx, mOwnIxA, mOwn, mC, mTB, mAnd, mOr, mNot, mCB, mCons, mNil, mTup, mIf, mFree, mCall, mCallO, mIsi, mTru, mUn, mAndV, mOrV, mNotV, mSl, mPart, mNoPart, mCW, mMth, mPop, mOwnL, mStrip, getV_eq, getO_eq, ownL, asB, asI, optO, fin1, fnD, settleX_nil, settleX_cons, settles_nil, settle_nil, settle1_nil, settle_cons, settle1_cons, settles_cons, frz, free, frees, free1, ltD, gtD, leD, geD, ordD, intOf, absD, lenD, lenA, listW, ixD, ixA, L2.atI, L2.ixN, addD, subD, modD, fdvD, powD, Dl.intD, negD, strip_eq, isOwn_eq, truthD, isiD, tyOf, isAny, kt0, kb_NoneType_bool, kb_NoneType_int, kb_NoneType_str, kb_NoneType_tuple, kb_NoneType_list, kb_NoneType_dict, kb_NoneType_float, kb_NoneType_set, kb_bool_bool, kb_bool_int, kb_bool_str, kb_bool_tuple, kb_bool_list, kb_bool_dict, kb_bool_float, kb_bool_set, kb_int_bool, kb_int_int, kb_int_str, kb_int_tuple, kb_int_list, kb_int_dict, kb_int_float, kb_int_set, kb_str_bool, kb_str_int, kb_str_str, kb_str_tuple, kb_str_list, kb_str_dict, kb_str_float, kb_str_set, kb_tuple_bool, kb_tuple_int, kb_tuple_str, kb_tuple_tuple, kb_tuple_list, kb_tuple_dict, kb_tuple_float, kb_tuple_set, kb_list_bool, kb_list_int, kb_list_str, kb_list_tuple, kb_list_list, kb_list_dict, kb_list_float, kb_list_set, kb_dict_bool, kb_dict_int, kb_dict_str, kb_dict_tuple, kb_dict_list, kb_dict_dict, kb_dict_float, kb_dict_set, e1, e2, e3, ne, so, oq, tp, oy, mSortSet, mApp, kgI]
end Lw
set_option maxHeartbeats 0
/-! L04d: k04, the law: known, told. -/
namespace Lw
open Dl
variable {cs : List Int} {k : Int} {pen : D} {cols names tb : List S}
abbrev knM (cf : Nat → List D → OutF) : MS := (sSetX 5 [] (mCB dictD (mCons (mStrip (mLcX [] (mIter anyOf (mSl (mVal 11) mNoPart (mPart (mBin addD (mC (.int 1)) (mStrip (mCallO 1 [] (cf 6) (mCons (mC (.int 2)) mNil))))))) (aName 13) [13] mYes (mTup (mCons (mVal 13) (mCons (mStrip (mCallO 1 [] (cf 11) (mCons (mVal 10) (mCons (mVal 12) (mCons (mC (.int 2)) mNil))))) mNil))))) mNil)))
abbrev toM (cf : Nat → List D → OutF) : MS := (sSetX 6 [] (mStrip (mCall (cf 4) (mCons (mVal 4) (mCons (mVal 5) mNil)))))
abbrev rpM (cf : Nat → List D → OutF) : MS := (sIf (mOr (mTB (mBin neD (mCB reprD (mCons (mVal 6) mNil)) (mCB reprD (mCons (mStrip (mCall (cf 16) (mCons (mVal 4) (mCons (mVal 5) mNil)))) mNil)))) (mTB (mBin neD (mCB reprD (mCons (mStrip (mCall (cf 4) (mApp (kgI kg1) mNil (mCons (mVal 5) (mCons (mVal 4) mNil))))) mNil)) (mCB reprD (mCons (mVal 6) mNil)))))
  (sRetX [] (mC (.bl false)))
  sNil)
def isQ (tb cols : List S) (v : D) : Prop := ∃ s d m, QT tb cols v s d m ∧ m ≤ 8 ∧ d ≤ 2
theorem kn_st {ns : List Int} {ta st co : List S} {a2 a3 a4 a5 a6 a7 a8 a9 : Option D} (O : PenOk ns) (N : NN ta st co) (h : Pn ns k pen) (hk : k ≤ 1000000) : ∃ kn pen', KnOk (ta ++ st) ta co kn ∧ Pn ns (k + 200) pen' ∧
    knM (callF 59) (G ns pen a2 a3 a4 a5 a6 a7 a8 a9 (some (.lst (strsD ta))) (some (.lst (strsD st))) (some (.lst (strsD co)))) = .next (G ns pen' a2 a3 a4 (some kn) a6 a7 a8 a9 (some (.lst (strsD ta))) (some (.lst (strsD st))) (some (.lst (strsD co)))) := by
  obtain ⟨r, p1, e1, h1, r0, r1⟩ := draw (n := 58) (many := 2) O h (by omega) (by omega)
  have r1 := r1 (by omega)
  have s2 := N.s2
  have t3 := N.t3
  obtain ⟨ks, hks, hs, sl⟩ : ∃ ks : List S, ks.length ≤ 2 ∧ (∀ c ∈ ks, c ∈ st) ∧ slD (.lst (strsD st)) none (some (1 + r)) = some (.lst (strsD ks)) := by
    match st, s2 with
    | [x, y], _ =>
      have rr : r = 0 ∨ r = 1 := by omega
      rcases rr with rfl | rfl
      · exact ⟨[x], by simp, by simp, by kernel_rfl⟩
      · exact ⟨[x, y], by simp, by simp, by kernel_rfl⟩
  obtain ⟨ys, Γ', e2, t2, h2⟩ := loopC_all (g := aName 13) (vs := [13]) (fe := (mTup (mCons (mVal 13) (mCons (mStrip (mCallO 1 [] (callF 59 11) (mCons (mVal 10) (mCons (mVal 12) (mCons (mC (.int 2)) mNil))))) mNil))))
    (fun i Γ => ∃ p, Γ = G ns p a2 a3 a4 a5 a6 a7 a8 a9 (some (.lst (strsD ta))) (some (.lst (strsD st))) (some (.lst (strsD co))) ∧ Pn ns (k + 1 + 60 * (i : Int)) p) (fun a y => ∃ c v, a = .str c ∧ y = .tup [a, v] ∧ isQ ta co v) (strsD ks) 0 (G ns p1 a2 a3 a4 a5 a6 a7 a8 a9 (some (.lst (strsD ta))) (some (.lst (strsD st))) (some (.lst (strsD co)))) ⟨p1, rfl, by simpa using h1⟩ (by
      rintro i d Γ hd ⟨p, rfl, hp⟩
      have hi : i < ks.length := by have := (List.getElem?_eq_some_iff.mp hd).1; simpa [strsD] using this
      obtain ⟨c, rfl⟩ : ∃ c : S, d = .str c := by
        obtain ⟨c, _, e⟩ := List.mem_map.mp (List.mem_of_getElem? hd)
        exact ⟨c, e.symm⟩
      obtain ⟨q, p3, s, d, m, e3, h3, hq, hd⟩ := question (names := ta) (cols := co) O N.okc (fun z => by rw [z] at t3; cases t3) (by omega) (by have := N.c2; omega) 2 59 _ p (by omega) (by omega) hp (by omega)
      have oq := hq.own
      have hm : m ≤ 8 := by
        have := hq.many
        have : 2 ^ (d + 1) ≤ 2 ^ 3 := Nat.pow_le_pow_right (by omega) (by omega)
        omega
      have e3 : callF 59 11 [.own p, .lst (strsD ta), .lst (strsD co), .int 2] = .ret q [some (.own p3)] := e3
      refine ⟨_, .tup [.str c, q], (G ns p3 a2 a3 a4 a5 a6 a7 a8 a9 (some (.lst (strsD ta))) (some (.lst (strsD st))) (some (.lst (strsD co)))).set 13 (some (.str c)), rfl, ?_, ⟨c, q, rfl, rfl, s, d, m, hq, hm, hd⟩, p3, ?_, h3.mono (by omega)⟩
      · unfold G
        simp [sSeq, sIf, sRetX, sSetX, sPut, sDrop, sRetO_eq, sRetN, sPass, sNil, mBin, mVal, mOwnIx, mOwnIxA, mOwn, mC, mTB, mAnd, mOr, mNot, mCB, mCons, mNil, mTup, mIf, mFree, mCall, mCallO, mIsi, mTru, mUn, mAndV, mOrV, mNotV, mSl, mPart, mNoPart, mCW, mMth, mPop, mOwnL, mStrip, getV_eq, getO_eq, ownL, asB, asI, optO, fin1, fnD, settleX_nil, settleX_cons, settles_nil, settle_nil, settle1_nil, settle_cons, settle1_cons, settles_cons, frz, free, frees, free1, ltD, gtD, leD, geD, ordD, intOf, absD, lenD, lenA, listW, ixD, ixA, L2.atI, L2.ixN, addD, subD, modD, fdvD, powD, Dl.intD, negD, strip_eq, isOwn_eq, truthD, isiD, tyOf, isAny, kt0, kb_NoneType_bool, kb_NoneType_int, kb_NoneType_str, kb_NoneType_tuple, kb_NoneType_list, kb_NoneType_dict, kb_NoneType_float, kb_NoneType_set, kb_bool_bool, kb_bool_int, kb_bool_str, kb_bool_tuple, kb_bool_list, kb_bool_dict, kb_bool_float, kb_bool_set, kb_int_bool, kb_int_int, kb_int_str, kb_int_tuple, kb_int_list, kb_int_dict, kb_int_float, kb_int_set, kb_str_bool, kb_str_int, kb_str_str, kb_str_tuple, kb_str_list, kb_str_dict, kb_str_float, kb_str_set, kb_tuple_bool, kb_tuple_int, kb_tuple_str, kb_tuple_tuple, kb_tuple_list, kb_tuple_dict, kb_tuple_float, kb_tuple_set, kb_list_bool, kb_list_int, kb_list_str, kb_list_tuple, kb_list_list, kb_list_dict, kb_list_float, kb_list_set, kb_dict_bool, kb_dict_int, kb_dict_str, kb_dict_tuple, kb_dict_list, kb_dict_dict, kb_dict_float, kb_dict_set, PySem.sizeLine_eq, inS, notInS, inA, notInA, noDct, isInD, notInD, inB, flatD, eqF, eqD, neD, eqB, scalEq, isD, isNotD, isB, ofString_beq, ofString_inj, mChain, mAndV, mOrV, mNotV, mApp, kgI, mLcX, mLcC, mIter, anyOf, noOwn, loopC, wipeG, backG, aName, mYes, frz1, tupleD, mRange1, rangeD1, small62, rangeI_len, e3, oq]
      · unfold G
        simp [sSeq, sIf, sRetX, sSetX, sPut, sDrop, sRetO_eq, sRetN, sPass, sNil, mBin, mVal, mOwnIx, mOwnIxA, mOwn, mC, mTB, mAnd, mOr, mNot, mCB, mCons, mNil, mTup, mIf, mFree, mCall, mCallO, mIsi, mTru, mUn, mAndV, mOrV, mNotV, mSl, mPart, mNoPart, mCW, mMth, mPop, mOwnL, mStrip, getV_eq, getO_eq, ownL, asB, asI, optO, fin1, fnD, settleX_nil, settleX_cons, settles_nil, settle_nil, settle1_nil, settle_cons, settle1_cons, settles_cons, frz, free, frees, free1, ltD, gtD, leD, geD, ordD, intOf, absD, lenD, lenA, listW, ixD, ixA, L2.atI, L2.ixN, addD, subD, modD, fdvD, powD, Dl.intD, negD, strip_eq, isOwn_eq, truthD, isiD, tyOf, isAny, kt0, kb_NoneType_bool, kb_NoneType_int, kb_NoneType_str, kb_NoneType_tuple, kb_NoneType_list, kb_NoneType_dict, kb_NoneType_float, kb_NoneType_set, kb_bool_bool, kb_bool_int, kb_bool_str, kb_bool_tuple, kb_bool_list, kb_bool_dict, kb_bool_float, kb_bool_set, kb_int_bool, kb_int_int, kb_int_str, kb_int_tuple, kb_int_list, kb_int_dict, kb_int_float, kb_int_set, kb_str_bool, kb_str_int, kb_str_str, kb_str_tuple, kb_str_list, kb_str_dict, kb_str_float, kb_str_set, kb_tuple_bool, kb_tuple_int, kb_tuple_str, kb_tuple_tuple, kb_tuple_list, kb_tuple_dict, kb_tuple_float, kb_tuple_set, kb_list_bool, kb_list_int, kb_list_str, kb_list_tuple, kb_list_list, kb_list_dict, kb_list_float, kb_list_set, kb_dict_bool, kb_dict_int, kb_dict_str, kb_dict_tuple, kb_dict_list, kb_dict_dict, kb_dict_float, kb_dict_set, PySem.sizeLine_eq, inS, notInS, inA, notInA, noDct, isInD, notInD, inB, flatD, eqF, eqD, neD, eqB, scalEq, isD, isNotD, isB, ofString_beq, ofString_inj, mChain, mAndV, mOrV, mNotV, mApp, kgI, mLcX, mLcC, mIter, anyOf, noOwn, loopC, wipeG, backG, aName, mYes, frz1, tupleD, mRange1, rangeD1, small62, rangeI_len])
  obtain ⟨p2, rfl, h2⟩ := h2
  obtain ⟨t, e4, _, ht⟩ := table2 t2
  have yl := t2.len
  rw [strs_len] at yl
  refine ⟨.dct t, p2, ⟨t, rfl, fun c hc => ?_⟩, h2.mono (by rw [strs_len]; omega), ?_⟩
  · by_cases h : c ∈ ks
    · obtain ⟨v, e, s, d, m, hq, hm, hd⟩ := (ht c).2 h
      exact .inr ⟨v, s, d, m, e, hq, hm, hd⟩
    · exact .inl ((ht c).1 h)
  · have hz : ys.length ≤ 16777216 := by omega
    have lz : (strsD ks).length ≤ 16777216 := by rw [strs_len]; omega
    unfold G at e2 ⊢
    simp [sSeq, sIf, sRetX, sSetX, sPut, sDrop, sRetO_eq, sRetN, sPass, sNil, mBin, mVal, mOwnIx, mOwnIxA, mOwn, mC, mTB, mAnd, mOr, mNot, mCB, mCons, mNil, mTup, mIf, mFree, mCall, mCallO, mIsi, mTru, mUn, mAndV, mOrV, mNotV, mSl, mPart, mNoPart, mCW, mMth, mPop, mOwnL, mStrip, getV_eq, getO_eq, ownL, asB, asI, optO, fin1, fnD, settleX_nil, settleX_cons, settles_nil, settle_nil, settle1_nil, settle_cons, settle1_cons, settles_cons, frz, free, frees, free1, ltD, gtD, leD, geD, ordD, intOf, absD, lenD, lenA, listW, ixD, ixA, L2.atI, L2.ixN, addD, subD, modD, fdvD, powD, Dl.intD, negD, strip_eq, isOwn_eq, truthD, isiD, tyOf, isAny, kt0, kb_NoneType_bool, kb_NoneType_int, kb_NoneType_str, kb_NoneType_tuple, kb_NoneType_list, kb_NoneType_dict, kb_NoneType_float, kb_NoneType_set, kb_bool_bool, kb_bool_int, kb_bool_str, kb_bool_tuple, kb_bool_list, kb_bool_dict, kb_bool_float, kb_bool_set, kb_int_bool, kb_int_int, kb_int_str, kb_int_tuple, kb_int_list, kb_int_dict, kb_int_float, kb_int_set, kb_str_bool, kb_str_int, kb_str_str, kb_str_tuple, kb_str_list, kb_str_dict, kb_str_float, kb_str_set, kb_tuple_bool, kb_tuple_int, kb_tuple_str, kb_tuple_tuple, kb_tuple_list, kb_tuple_dict, kb_tuple_float, kb_tuple_set, kb_list_bool, kb_list_int, kb_list_str, kb_list_tuple, kb_list_list, kb_list_dict, kb_list_float, kb_list_set, kb_dict_bool, kb_dict_int, kb_dict_str, kb_dict_tuple, kb_dict_list, kb_dict_dict, kb_dict_float, kb_dict_set, e1, sl, lz, mLcX, mLcC, mIter, anyOf, noOwn, PySem.sizeLine_eq, hz, e2, e4]
theorem to_st {ns : List Int} {ta st co : List S} {q kn : D} {s d m : Nat} {a2 a3 a6 a7 a8 a9 a10 a11 a12 : Option D} (N : NN ta st co) (hq : QT (ta ++ st) co q s d m) (hd : d ≤ 4) (hm : m ≤ 31) (kk : KnOk (ta ++ st) ta co kn) : ∃ told, isOwnD told = false ∧ callF 59 4 [q, kn] = .ret told [] ∧
    (sSeq (toM (callF 59)) (rpM (callF 59))) (G ns pen a2 a3 (some q) (some kn) a6 a7 a8 a9 a10 a11 a12) = .next (G ns pen a2 a3 (some q) (some kn) (some told) a7 a8 a9 a10 a11 a12) := by
  obtain ⟨told, s', d', m', ht, hm', hd', e⟩ := repl (fun t h => List.mem_append_left _ h) kk hq
  obtain ⟨e1, e2⟩ := e 59 (by omega)
  have ot := ht.own
  have oq := hq.own
  have ko : isOwnD kn = false := by obtain ⟨l, rfl, _⟩ := kk; rfl
  obtain ⟨r1, r2⟩ := ht.data N.ok N.okc
  have r3 := ht.wt N.n8 N.c8
  obtain ⟨x, rp⟩ := repr_ex r1 (by omega) (by omega)
  have ne := ne_str x
  refine ⟨told, ot, e1, ?_⟩
  unfold G
  simp [sSeq, sIf, sRetX, sSetX, sPut, sDrop, sRetO_eq, sRetN, sPass, sNil, mBin, mVal, mOwnIx, mOwnIxA, mOwn, mC, mTB, mAnd, mOr, mNot, mCB, mCons, mNil, mTup, mIf, mFree, mCall, mCallO, mIsi, mTru, mUn, mAndV, mOrV, mNotV, mSl, mPart, mNoPart, mCW, mMth, mPop, mOwnL, mStrip, getV_eq, getO_eq, ownL, asB, asI, optO, fin1, fnD, settleX_nil, settleX_cons, settles_nil, settle_nil, settle1_nil, settle_cons, settle1_cons, settles_cons, frz, free, frees, free1, ltD, gtD, leD, geD, ordD, intOf, absD, lenD, lenA, listW, ixD, ixA, L2.atI, L2.ixN, addD, subD, modD, fdvD, powD, Dl.intD, negD, strip_eq, isOwn_eq, truthD, isiD, tyOf, isAny, kt0, kb_NoneType_bool, kb_NoneType_int, kb_NoneType_str, kb_NoneType_tuple, kb_NoneType_list, kb_NoneType_dict, kb_NoneType_float, kb_NoneType_set, kb_bool_bool, kb_bool_int, kb_bool_str, kb_bool_tuple, kb_bool_list, kb_bool_dict, kb_bool_float, kb_bool_set, kb_int_bool, kb_int_int, kb_int_str, kb_int_tuple, kb_int_list, kb_int_dict, kb_int_float, kb_int_set, kb_str_bool, kb_str_int, kb_str_str, kb_str_tuple, kb_str_list, kb_str_dict, kb_str_float, kb_str_set, kb_tuple_bool, kb_tuple_int, kb_tuple_str, kb_tuple_tuple, kb_tuple_list, kb_tuple_dict, kb_tuple_float, kb_tuple_set, kb_list_bool, kb_list_int, kb_list_str, kb_list_tuple, kb_list_list, kb_list_dict, kb_list_float, kb_list_set, kb_dict_bool, kb_dict_int, kb_dict_str, kb_dict_tuple, kb_dict_list, kb_dict_dict, kb_dict_float, kb_dict_set, e1, e2, ot, oq, ko, rp, ne, mApp, kgI]
end Lw
set_option maxHeartbeats 0
/-! L04e: k04, the law: counts, row, more. -/
namespace Lw
open Dl
variable {cs : List Int} {k : Int} {pen : D} {cols names tb : List S}
abbrev cnM (cf : Nat → List D → OutF) : MS := (sSetX 7 [] (mCB dictD (mCons (mStrip (mLcX [] (mIter anyOf (mBin addD (mVal 10) (mVal 11))) (aName 14) [14] mYes (mTup (mCons (mVal 14) (mCons (mStrip (mCallO 1 [] (cf 6) (mCons (mC (.int 6)) mNil))) mNil))))) mNil)))
abbrev roM (cf : Nat → List D → OutF) : MS := (sSetX 8 [] (mCB dictD (mCons (mStrip (mLcX [] (mIter anyOf (mVal 12)) (aName 15) [15] mYes (mTup (mCons (mVal 15) (mCons (mStrip (mCallO 1 [] (cf 7) (mCons (mStrip (mOwnL (mCons (mC .non) (mCons (mC (.int 0)) (mCons (mC (.int 1)) (mCons (mC (.int 2)) (mCons (mC (.int 5)) mNil))))))) mNil))) mNil))))) mNil)))
abbrev moM (cf : Nat → List D → OutF) : MS := (sSetX 9 [] (mCB dictD (mCons (mStrip (mLcX [] (mIter (ofDct keysL) (mVal 7)) (aName 14) [14] mYes (mTup (mCons (mVal 14) (mCons (mIf (mTB (mBin inA (mVal 14) (mVal 5))) (mStrip (mCall (cf 14) (mCons (mBin ixA (mVal 5) (mVal 14)) (mCons (mVal 7) (mCons (mVal 8) mNil))))) (mBin ixA (mVal 7) (mVal 14))) mNil))))) mNil)))
abbrev fiM (cf : Nat → List D → OutF) : MS := (sIf (mTB (mBin neD (mStrip (mCall (cf 2) (mCons (mVal 6) (mCons (mVal 7) (mCons (mVal 8) mNil))))) (mStrip (mCall (cf 14) (mCons (mVal 4) (mCons (mVal 9) (mCons (mVal 8) mNil)))))))
  (sRetX [] (mC (.bl false)))
  sNil)
def isCell (v : D) : Prop := v = .non ∨ ∃ i : Int, v = .int i
def rowL : List D := [.non, .int 0, .int 1, .int 2, .int 5]
theorem rowL_ok : ∀ x ∈ rowL, isCell x := by
  intro x hx
  simp only [rowL, List.mem_cons, List.not_mem_nil, or_false] at hx
  rcases hx with rfl | rfl | rfl | rfl | rfl <;> first | exact .inl rfl | exact .inr ⟨_, rfl⟩
theorem isCell.own {v : D} (h : isCell v) : isOwnD v = false := by rcases h with rfl | ⟨i, rfl⟩ <;> rfl
theorem cn_st {ns : List Int} {ta st co : List S} {a2 a3 a4 a5 a6 a7 a8 a9 a12 : Option D} (O : PenOk ns) (N : NN ta st co) (h : Pn ns k pen) (hk : k ≤ 1000000) : ∃ cnt c pen', cnt = .dct c ∧ CntOk (ta ++ st) cnt ∧ keysT c = some (ddL (ta ++ st)) ∧ Pn ns (k + 5) pen' ∧
    cnM (callF 59) (G ns pen a2 a3 a4 a5 a6 a7 a8 a9 (some (.lst (strsD ta))) (some (.lst (strsD st))) a12) = .next (G ns pen' a2 a3 a4 a5 a6 (some cnt) a8 a9 (some (.lst (strsD ta))) (some (.lst (strsD st))) a12) := by
  have l5 := N.all5
  obtain ⟨ys, Γ', e2, t2, h2⟩ := loopC_all (g := aName 14) (vs := [14]) (fe := (mTup (mCons (mVal 14) (mCons (mStrip (mCallO 1 [] (callF 59 6) (mCons (mC (.int 6)) mNil))) mNil))))
    (fun i Γ => ∃ p, Γ = G ns p a2 a3 a4 a5 a6 a7 a8 a9 (some (.lst (strsD ta))) (some (.lst (strsD st))) a12 ∧ Pn ns (k + i) p) (fun a y => ∃ c v, a = .str c ∧ y = .tup [a, v] ∧ ∃ i : Int, v = .int i ∧ 0 ≤ i ∧ i.natAbs < 2 ^ 67) (strsD (ta ++ st)) 0 (G ns pen a2 a3 a4 a5 a6 a7 a8 a9 (some (.lst (strsD ta))) (some (.lst (strsD st))) a12) ⟨pen, rfl, by simpa using h⟩ (by
      rintro i d Γ hd ⟨p, rfl, hp⟩
      have hi : i < (ta ++ st).length := by have := (List.getElem?_eq_some_iff.mp hd).1; rwa [strs_len] at this
      obtain ⟨c, rfl⟩ : ∃ c : S, d = .str c := by
        obtain ⟨c, _, e⟩ := List.mem_map.mp (List.mem_of_getElem? hd)
        exact ⟨c, e.symm⟩
      obtain ⟨r, p3, e3, h3, r0, r1⟩ := draw (n := 58) (many := 6) O hp (by omega) (by omega)
      have r1 := r1 (by omega)
      refine ⟨_, .tup [.str c, .int r], (G ns p3 a2 a3 a4 a5 a6 a7 a8 a9 (some (.lst (strsD ta))) (some (.lst (strsD st))) a12).set 14 (some (.str c)), rfl, ?_, ⟨c, .int r, rfl, rfl, r, rfl, r0, by omega⟩, p3, ?_, h3.mono (by omega)⟩
      · unfold G
        simp [sSeq, sIf, sRetX, sSetX, sPut, sDrop, sRetO_eq, sRetN, sPass, sNil, mBin, mVal, mOwnIx, mOwnIxA, mOwn, mC, mTB, mAnd, mOr, mNot, mCB, mCons, mNil, mTup, mIf, mFree, mCall, mCallO, mIsi, mTru, mUn, mAndV, mOrV, mNotV, mSl, mPart, mNoPart, mCW, mMth, mPop, mOwnL, mStrip, getV_eq, getO_eq, ownL, asB, asI, optO, fin1, fnD, settleX_nil, settleX_cons, settles_nil, settle_nil, settle1_nil, settle_cons, settle1_cons, settles_cons, frz, free, frees, free1, ltD, gtD, leD, geD, ordD, intOf, absD, lenD, lenA, listW, ixD, ixA, L2.atI, L2.ixN, addD, subD, modD, fdvD, powD, Dl.intD, negD, strip_eq, isOwn_eq, truthD, isiD, tyOf, isAny, kt0, kb_NoneType_bool, kb_NoneType_int, kb_NoneType_str, kb_NoneType_tuple, kb_NoneType_list, kb_NoneType_dict, kb_NoneType_float, kb_NoneType_set, kb_bool_bool, kb_bool_int, kb_bool_str, kb_bool_tuple, kb_bool_list, kb_bool_dict, kb_bool_float, kb_bool_set, kb_int_bool, kb_int_int, kb_int_str, kb_int_tuple, kb_int_list, kb_int_dict, kb_int_float, kb_int_set, kb_str_bool, kb_str_int, kb_str_str, kb_str_tuple, kb_str_list, kb_str_dict, kb_str_float, kb_str_set, kb_tuple_bool, kb_tuple_int, kb_tuple_str, kb_tuple_tuple, kb_tuple_list, kb_tuple_dict, kb_tuple_float, kb_tuple_set, kb_list_bool, kb_list_int, kb_list_str, kb_list_tuple, kb_list_list, kb_list_dict, kb_list_float, kb_list_set, kb_dict_bool, kb_dict_int, kb_dict_str, kb_dict_tuple, kb_dict_list, kb_dict_dict, kb_dict_float, kb_dict_set, PySem.sizeLine_eq, inS, notInS, inA, notInA, noDct, isInD, notInD, inB, flatD, eqF, eqD, neD, eqB, scalEq, isD, isNotD, isB, ofString_beq, ofString_inj, mChain, mAndV, mOrV, mNotV, mApp, kgI, mLcX, mLcC, mIter, anyOf, noOwn, loopC, wipeG, backG, aName, mYes, frz1, tupleD, mRange1, rangeD1, small62, rangeI_len, e3]
      · unfold G
        simp [sSeq, sIf, sRetX, sSetX, sPut, sDrop, sRetO_eq, sRetN, sPass, sNil, mBin, mVal, mOwnIx, mOwnIxA, mOwn, mC, mTB, mAnd, mOr, mNot, mCB, mCons, mNil, mTup, mIf, mFree, mCall, mCallO, mIsi, mTru, mUn, mAndV, mOrV, mNotV, mSl, mPart, mNoPart, mCW, mMth, mPop, mOwnL, mStrip, getV_eq, getO_eq, ownL, asB, asI, optO, fin1, fnD, settleX_nil, settleX_cons, settles_nil, settle_nil, settle1_nil, settle_cons, settle1_cons, settles_cons, frz, free, frees, free1, ltD, gtD, leD, geD, ordD, intOf, absD, lenD, lenA, listW, ixD, ixA, L2.atI, L2.ixN, addD, subD, modD, fdvD, powD, Dl.intD, negD, strip_eq, isOwn_eq, truthD, isiD, tyOf, isAny, kt0, kb_NoneType_bool, kb_NoneType_int, kb_NoneType_str, kb_NoneType_tuple, kb_NoneType_list, kb_NoneType_dict, kb_NoneType_float, kb_NoneType_set, kb_bool_bool, kb_bool_int, kb_bool_str, kb_bool_tuple, kb_bool_list, kb_bool_dict, kb_bool_float, kb_bool_set, kb_int_bool, kb_int_int, kb_int_str, kb_int_tuple, kb_int_list, kb_int_dict, kb_int_float, kb_int_set, kb_str_bool, kb_str_int, kb_str_str, kb_str_tuple, kb_str_list, kb_str_dict, kb_str_float, kb_str_set, kb_tuple_bool, kb_tuple_int, kb_tuple_str, kb_tuple_tuple, kb_tuple_list, kb_tuple_dict, kb_tuple_float, kb_tuple_set, kb_list_bool, kb_list_int, kb_list_str, kb_list_tuple, kb_list_list, kb_list_dict, kb_list_float, kb_list_set, kb_dict_bool, kb_dict_int, kb_dict_str, kb_dict_tuple, kb_dict_list, kb_dict_dict, kb_dict_float, kb_dict_set, PySem.sizeLine_eq, inS, notInS, inA, notInA, noDct, isInD, notInD, inB, flatD, eqF, eqD, neD, eqB, scalEq, isD, isNotD, isB, ofString_beq, ofString_inj, mChain, mAndV, mOrV, mNotV, mApp, kgI, mLcX, mLcC, mIter, anyOf, noOwn, loopC, wipeG, backG, aName, mYes, frz1, tupleD, mRange1, rangeD1, small62, rangeI_len])
  obtain ⟨p2, rfl, h2⟩ := h2
  obtain ⟨t, e4, ek, ht⟩ := table2 t2
  have yl := t2.len
  rw [strs_len] at yl
  refine ⟨.dct t, t, p2, rfl, ⟨t, rfl, fun c hc => ?_⟩, ek, h2.mono (by rw [strs_len]; omega), ?_⟩
  · obtain ⟨v, e, i, rfl, h0, h1⟩ := (ht c).2 hc
    exact ⟨i, e, h0, h1⟩
  · have hz : ys.length ≤ 16777216 := by omega
    have lz : (strsD ta).length + (strsD st).length ≤ 16777216 := by rw [strs_len, strs_len, N.t3, N.s2]; omega
    rw [strsD_app] at e2
    unfold G at e2 ⊢
    simp [sSeq, sIf, sRetX, sSetX, sPut, sDrop, sRetO_eq, sRetN, sPass, sNil, mBin, mVal, mOwnIx, mOwnIxA, mOwn, mC, mTB, mAnd, mOr, mNot, mCB, mCons, mNil, mTup, mIf, mFree, mCall, mCallO, mIsi, mTru, mUn, mAndV, mOrV, mNotV, mSl, mPart, mNoPart, mCW, mMth, mPop, mOwnL, mStrip, getV_eq, getO_eq, ownL, asB, asI, optO, fin1, fnD, settleX_nil, settleX_cons, settles_nil, settle_nil, settle1_nil, settle_cons, settle1_cons, settles_cons, frz, free, frees, free1, ltD, gtD, leD, geD, ordD, intOf, absD, lenD, lenA, listW, ixD, ixA, L2.atI, L2.ixN, addD, subD, modD, fdvD, powD, Dl.intD, negD, strip_eq, isOwn_eq, truthD, isiD, tyOf, isAny, kt0, kb_NoneType_bool, kb_NoneType_int, kb_NoneType_str, kb_NoneType_tuple, kb_NoneType_list, kb_NoneType_dict, kb_NoneType_float, kb_NoneType_set, kb_bool_bool, kb_bool_int, kb_bool_str, kb_bool_tuple, kb_bool_list, kb_bool_dict, kb_bool_float, kb_bool_set, kb_int_bool, kb_int_int, kb_int_str, kb_int_tuple, kb_int_list, kb_int_dict, kb_int_float, kb_int_set, kb_str_bool, kb_str_int, kb_str_str, kb_str_tuple, kb_str_list, kb_str_dict, kb_str_float, kb_str_set, kb_tuple_bool, kb_tuple_int, kb_tuple_str, kb_tuple_tuple, kb_tuple_list, kb_tuple_dict, kb_tuple_float, kb_tuple_set, kb_list_bool, kb_list_int, kb_list_str, kb_list_tuple, kb_list_list, kb_list_dict, kb_list_float, kb_list_set, kb_dict_bool, kb_dict_int, kb_dict_str, kb_dict_tuple, kb_dict_list, kb_dict_dict, kb_dict_float, kb_dict_set, lz, mLcX, mLcC, mIter, anyOf, noOwn, PySem.sizeLine_eq, hz, e2, e4]
theorem ro_st {ns : List Int} {co : List S} {a2 a3 a4 a5 a6 a7 a8 a9 a10 a11 : Option D} (O : PenOk ns) (h : Pn ns k pen) (hk : k ≤ 1000000) (hc : co.length ≤ 2) : ∃ row pen', RowOk co row ∧ Pn ns (k + 2) pen' ∧
    roM (callF 59) (G ns pen a2 a3 a4 a5 a6 a7 a8 a9 a10 a11 (some (.lst (strsD co)))) = .next (G ns pen' a2 a3 a4 a5 a6 a7 (some row) a9 a10 a11 (some (.lst (strsD co)))) := by
  obtain ⟨ys, Γ', e2, t2, h2⟩ := loopC_all (g := aName 15) (vs := [15]) (fe := (mTup (mCons (mVal 15) (mCons (mStrip (mCallO 1 [] (callF 59 7) (mCons (mStrip (mOwnL (mCons (mC .non) (mCons (mC (.int 0)) (mCons (mC (.int 1)) (mCons (mC (.int 2)) (mCons (mC (.int 5)) mNil))))))) mNil))) mNil))))
    (fun i Γ => ∃ p, Γ = G ns p a2 a3 a4 a5 a6 a7 a8 a9 a10 a11 (some (.lst (strsD co))) ∧ Pn ns (k + i) p) (fun a y => ∃ c v, a = .str c ∧ y = .tup [a, v] ∧ isCell v) (strsD co) 0 (G ns pen a2 a3 a4 a5 a6 a7 a8 a9 a10 a11 (some (.lst (strsD co)))) ⟨pen, rfl, by simpa using h⟩ (by
      rintro i d Γ hd ⟨p, rfl, hp⟩
      have hi : i < co.length := by have := (List.getElem?_eq_some_iff.mp hd).1; rwa [strs_len] at this
      obtain ⟨c, rfl⟩ : ∃ c : S, d = .str c := by
        obtain ⟨c, _, e⟩ := List.mem_map.mp (List.mem_of_getElem? hd)
        exact ⟨c, e.symm⟩
      obtain ⟨x, p3, hx, e3, h3⟩ := pick (n := 57) (l := rowL) O hp (by omega) (by simp [rowL]) (by simp [rowL]) (fun x h => (rowL_ok x h).own)
      have o := (rowL_ok x hx).own
      refine ⟨_, .tup [.str c, x], (G ns p3 a2 a3 a4 a5 a6 a7 a8 a9 a10 a11 (some (.lst (strsD co)))).set 15 (some (.str c)), rfl, ?_, ⟨c, x, rfl, rfl, rowL_ok x hx⟩, p3, ?_, h3.mono (by omega)⟩
      · unfold rowL at e3
        unfold G
        simp [sSeq, sIf, sRetX, sSetX, sPut, sDrop, sRetO_eq, sRetN, sPass, sNil, mBin, mVal, mOwnIx, mOwnIxA, mOwn, mC, mTB, mAnd, mOr, mNot, mCB, mCons, mNil, mTup, mIf, mFree, mCall, mCallO, mIsi, mTru, mUn, mAndV, mOrV, mNotV, mSl, mPart, mNoPart, mCW, mMth, mPop, mOwnL, mStrip, getV_eq, getO_eq, ownL, asB, asI, optO, fin1, fnD, settleX_nil, settleX_cons, settles_nil, settle_nil, settle1_nil, settle_cons, settle1_cons, settles_cons, frz, free, frees, free1, ltD, gtD, leD, geD, ordD, intOf, absD, lenD, lenA, listW, ixD, ixA, L2.atI, L2.ixN, addD, subD, modD, fdvD, powD, Dl.intD, negD, strip_eq, isOwn_eq, truthD, isiD, tyOf, isAny, kt0, kb_NoneType_bool, kb_NoneType_int, kb_NoneType_str, kb_NoneType_tuple, kb_NoneType_list, kb_NoneType_dict, kb_NoneType_float, kb_NoneType_set, kb_bool_bool, kb_bool_int, kb_bool_str, kb_bool_tuple, kb_bool_list, kb_bool_dict, kb_bool_float, kb_bool_set, kb_int_bool, kb_int_int, kb_int_str, kb_int_tuple, kb_int_list, kb_int_dict, kb_int_float, kb_int_set, kb_str_bool, kb_str_int, kb_str_str, kb_str_tuple, kb_str_list, kb_str_dict, kb_str_float, kb_str_set, kb_tuple_bool, kb_tuple_int, kb_tuple_str, kb_tuple_tuple, kb_tuple_list, kb_tuple_dict, kb_tuple_float, kb_tuple_set, kb_list_bool, kb_list_int, kb_list_str, kb_list_tuple, kb_list_list, kb_list_dict, kb_list_float, kb_list_set, kb_dict_bool, kb_dict_int, kb_dict_str, kb_dict_tuple, kb_dict_list, kb_dict_dict, kb_dict_float, kb_dict_set, PySem.sizeLine_eq, inS, notInS, inA, notInA, noDct, isInD, notInD, inB, flatD, eqF, eqD, neD, eqB, scalEq, isD, isNotD, isB, ofString_beq, ofString_inj, mChain, mAndV, mOrV, mNotV, mApp, kgI, mLcX, mLcC, mIter, anyOf, noOwn, loopC, wipeG, backG, aName, mYes, frz1, tupleD, mRange1, rangeD1, small62, rangeI_len, e3, o]
      · unfold G
        simp [sSeq, sIf, sRetX, sSetX, sPut, sDrop, sRetO_eq, sRetN, sPass, sNil, mBin, mVal, mOwnIx, mOwnIxA, mOwn, mC, mTB, mAnd, mOr, mNot, mCB, mCons, mNil, mTup, mIf, mFree, mCall, mCallO, mIsi, mTru, mUn, mAndV, mOrV, mNotV, mSl, mPart, mNoPart, mCW, mMth, mPop, mOwnL, mStrip, getV_eq, getO_eq, ownL, asB, asI, optO, fin1, fnD, settleX_nil, settleX_cons, settles_nil, settle_nil, settle1_nil, settle_cons, settle1_cons, settles_cons, frz, free, frees, free1, ltD, gtD, leD, geD, ordD, intOf, absD, lenD, lenA, listW, ixD, ixA, L2.atI, L2.ixN, addD, subD, modD, fdvD, powD, Dl.intD, negD, strip_eq, isOwn_eq, truthD, isiD, tyOf, isAny, kt0, kb_NoneType_bool, kb_NoneType_int, kb_NoneType_str, kb_NoneType_tuple, kb_NoneType_list, kb_NoneType_dict, kb_NoneType_float, kb_NoneType_set, kb_bool_bool, kb_bool_int, kb_bool_str, kb_bool_tuple, kb_bool_list, kb_bool_dict, kb_bool_float, kb_bool_set, kb_int_bool, kb_int_int, kb_int_str, kb_int_tuple, kb_int_list, kb_int_dict, kb_int_float, kb_int_set, kb_str_bool, kb_str_int, kb_str_str, kb_str_tuple, kb_str_list, kb_str_dict, kb_str_float, kb_str_set, kb_tuple_bool, kb_tuple_int, kb_tuple_str, kb_tuple_tuple, kb_tuple_list, kb_tuple_dict, kb_tuple_float, kb_tuple_set, kb_list_bool, kb_list_int, kb_list_str, kb_list_tuple, kb_list_list, kb_list_dict, kb_list_float, kb_list_set, kb_dict_bool, kb_dict_int, kb_dict_str, kb_dict_tuple, kb_dict_list, kb_dict_dict, kb_dict_float, kb_dict_set, PySem.sizeLine_eq, inS, notInS, inA, notInA, noDct, isInD, notInD, inB, flatD, eqF, eqD, neD, eqB, scalEq, isD, isNotD, isB, ofString_beq, ofString_inj, mChain, mAndV, mOrV, mNotV, mApp, kgI, mLcX, mLcC, mIter, anyOf, noOwn, loopC, wipeG, backG, aName, mYes, frz1, tupleD, mRange1, rangeD1, small62, rangeI_len])
  obtain ⟨p2, rfl, h2⟩ := h2
  obtain ⟨t, e4, _, ht⟩ := table2 t2
  have yl := t2.len
  rw [strs_len] at yl
  refine ⟨.dct t, p2, ⟨t, rfl, fun c hc => ?_⟩, h2.mono (by rw [strs_len]; omega), ?_⟩
  · obtain ⟨v, e, h⟩ := (ht c).2 hc
    rcases h with rfl | ⟨i, rfl⟩
    · exact .inl e
    · exact .inr ⟨i, e⟩
  · have hz : ys.length ≤ 16777216 := by omega
    have lz : (strsD co).length ≤ 16777216 := by rw [strs_len]; omega
    unfold G at e2 ⊢
    simp [sSeq, sIf, sRetX, sSetX, sPut, sDrop, sRetO_eq, sRetN, sPass, sNil, mBin, mVal, mOwnIx, mOwnIxA, mOwn, mC, mTB, mAnd, mOr, mNot, mCB, mCons, mNil, mTup, mIf, mFree, mCall, mCallO, mIsi, mTru, mUn, mAndV, mOrV, mNotV, mSl, mPart, mNoPart, mCW, mMth, mPop, mOwnL, mStrip, getV_eq, getO_eq, ownL, asB, asI, optO, fin1, fnD, settleX_nil, settleX_cons, settles_nil, settle_nil, settle1_nil, settle_cons, settle1_cons, settles_cons, frz, free, frees, free1, ltD, gtD, leD, geD, ordD, intOf, absD, lenD, lenA, listW, ixD, ixA, L2.atI, L2.ixN, addD, subD, modD, fdvD, powD, Dl.intD, negD, strip_eq, isOwn_eq, truthD, isiD, tyOf, isAny, kt0, kb_NoneType_bool, kb_NoneType_int, kb_NoneType_str, kb_NoneType_tuple, kb_NoneType_list, kb_NoneType_dict, kb_NoneType_float, kb_NoneType_set, kb_bool_bool, kb_bool_int, kb_bool_str, kb_bool_tuple, kb_bool_list, kb_bool_dict, kb_bool_float, kb_bool_set, kb_int_bool, kb_int_int, kb_int_str, kb_int_tuple, kb_int_list, kb_int_dict, kb_int_float, kb_int_set, kb_str_bool, kb_str_int, kb_str_str, kb_str_tuple, kb_str_list, kb_str_dict, kb_str_float, kb_str_set, kb_tuple_bool, kb_tuple_int, kb_tuple_str, kb_tuple_tuple, kb_tuple_list, kb_tuple_dict, kb_tuple_float, kb_tuple_set, kb_list_bool, kb_list_int, kb_list_str, kb_list_tuple, kb_list_list, kb_list_dict, kb_list_float, kb_list_set, kb_dict_bool, kb_dict_int, kb_dict_str, kb_dict_tuple, kb_dict_list, kb_dict_dict, kb_dict_float, kb_dict_set, lz, mLcX, mLcC, mIter, anyOf, noOwn, PySem.sizeLine_eq, hz, e2, e4]
theorem any_valK {c : L2.Key} : ∀ l : List (L2.Key × D), (l.any fun p => decide (p.1 = c)) = (valK l c).isSome
  | [] => rfl
  | (a, d) :: l => by
    rw [List.any_cons, valK_cons, any_valK l]
    by_cases e : a = c <;> simp [e]
theorem mo_st {ns : List Int} {ta st co : List S} {kn row cnt : D} {c : List (L2.Key × D)} {a2 a3 a4 a6 a9 a10 a11 a12 : Option D} (N : NN ta st co) (kk : KnOk (ta ++ st) ta co kn) (r : RowOk co row) (ec : cnt = .dct c) (cc : CntOk (ta ++ st) cnt) (ck : keysT c = some (ddL (ta ++ st))) : ∃ more, MoOk (ta ++ st) kn cnt row more ∧
    moM (callF 59) (G ns pen a2 a3 a4 (some kn) a6 (some cnt) (some row) a9 a10 a11 a12) = .next (G ns pen a2 a3 a4 (some kn) a6 (some cnt) (some row) (some more) a10 a11 a12) := by
  have l5 := N.all5
  have d5 := ddL_le (ta ++ st)
  have ro := r.own
  obtain ⟨l, rfl, hl⟩ := kk
  subst ec
  have cc' := cc
  obtain ⟨_, e0, hc⟩ := cc'
  cases e0
  obtain ⟨ys, Γ', e2, t2, h2⟩ := loopC_all (g := aName 14) (vs := [14]) (fe := (mTup (mCons (mVal 14) (mCons (mIf (mTB (mBin inA (mVal 14) (mVal 5))) (mStrip (mCall (callF 59 14) (mCons (mBin ixA (mVal 5) (mVal 14)) (mCons (mVal 7) (mCons (mVal 8) mNil))))) (mBin ixA (mVal 7) (mVal 14))) mNil))))
    (fun i Γ => Γ = G ns pen a2 a3 a4 (some (.dct l)) a6 (some (.dct c)) (some row) a9 a10 a11 a12) (fun a y => ∃ t v, a = .str t ∧ y = .tup [a, v] ∧ ((valK l (.inr t) = none → valK c (.inr t) = some v) ∧ ∀ q, valK l (.inr t) = some q → ∃ N : Int, v = .int N ∧ callF 59 14 [q, .dct c, row] = .ret (.int N) [])) (strsD (ddL (ta ++ st))) 0 (G ns pen a2 a3 a4 (some (.dct l)) a6 (some (.dct c)) (some row) a9 a10 a11 a12) rfl (by
      rintro i d Γ hd rfl
      obtain ⟨t, ht, e⟩ := List.mem_map.mp (List.mem_of_getElem? hd)
      subst e
      have ht := ddL_mem.mp ht
      rcases hl t ht with e | ⟨q, s, d, m, e, hq, hm, hd⟩
      · obtain ⟨i, ei, _, _⟩ := hc t ht
        have an : (l.any fun p => decide (p.1 = (.inr t : L2.Key))) = false := by rw [any_valK, e]; rfl
        refine ⟨_, .tup [.str t, .int i], (G ns pen a2 a3 a4 (some (.dct l)) a6 (some (.dct c)) (some row) a9 a10 a11 a12).set 14 (some (.str t)), rfl, ?_, ⟨t, .int i, rfl, rfl, fun _ => ei, fun q z => by rw [e] at z; cases z⟩, ?_⟩
        · unfold G
          simp [sSeq, sIf, sRetX, sSetX, sPut, sDrop, sRetO_eq, sRetN, sPass, sNil, mBin, mVal, mOwnIx, mOwnIxA, mOwn, mC, mTB, mAnd, mOr, mNot, mCB, mCons, mNil, mTup, mIf, mFree, mCall, mCallO, mIsi, mTru, mUn, mAndV, mOrV, mNotV, mSl, mPart, mNoPart, mCW, mMth, mPop, mOwnL, mStrip, getV_eq, getO_eq, ownL, asB, asI, optO, fin1, fnD, settleX_nil, settleX_cons, settles_nil, settle_nil, settle1_nil, settle_cons, settle1_cons, settles_cons, frz, free, frees, free1, ltD, gtD, leD, geD, ordD, intOf, absD, lenD, lenA, listW, ixD, ixA, L2.atI, L2.ixN, addD, subD, modD, fdvD, powD, Dl.intD, negD, strip_eq, isOwn_eq, truthD, isiD, tyOf, isAny, kt0, kb_NoneType_bool, kb_NoneType_int, kb_NoneType_str, kb_NoneType_tuple, kb_NoneType_list, kb_NoneType_dict, kb_NoneType_float, kb_NoneType_set, kb_bool_bool, kb_bool_int, kb_bool_str, kb_bool_tuple, kb_bool_list, kb_bool_dict, kb_bool_float, kb_bool_set, kb_int_bool, kb_int_int, kb_int_str, kb_int_tuple, kb_int_list, kb_int_dict, kb_int_float, kb_int_set, kb_str_bool, kb_str_int, kb_str_str, kb_str_tuple, kb_str_list, kb_str_dict, kb_str_float, kb_str_set, kb_tuple_bool, kb_tuple_int, kb_tuple_str, kb_tuple_tuple, kb_tuple_list, kb_tuple_dict, kb_tuple_float, kb_tuple_set, kb_list_bool, kb_list_int, kb_list_str, kb_list_tuple, kb_list_list, kb_list_dict, kb_list_float, kb_list_set, kb_dict_bool, kb_dict_int, kb_dict_str, kb_dict_tuple, kb_dict_list, kb_dict_dict, kb_dict_float, kb_dict_set, keyD, an, ei, inA, ixA, wipeG, PySem.sizeLine_eq]
        · unfold G
          simp [sSeq, sIf, sRetX, sSetX, sPut, sDrop, sRetO_eq, sRetN, sPass, sNil, mBin, mVal, mOwnIx, mOwnIxA, mOwn, mC, mTB, mAnd, mOr, mNot, mCB, mCons, mNil, mTup, mIf, mFree, mCall, mCallO, mIsi, mTru, mUn, mAndV, mOrV, mNotV, mSl, mPart, mNoPart, mCW, mMth, mPop, mOwnL, mStrip, getV_eq, getO_eq, ownL, asB, asI, optO, fin1, fnD, settleX_nil, settleX_cons, settles_nil, settle_nil, settle1_nil, settle_cons, settle1_cons, settles_cons, frz, free, frees, free1, ltD, gtD, leD, geD, ordD, intOf, absD, lenD, lenA, listW, ixD, ixA, L2.atI, L2.ixN, addD, subD, modD, fdvD, powD, Dl.intD, negD, strip_eq, isOwn_eq, truthD, isiD, tyOf, isAny, kt0, kb_NoneType_bool, kb_NoneType_int, kb_NoneType_str, kb_NoneType_tuple, kb_NoneType_list, kb_NoneType_dict, kb_NoneType_float, kb_NoneType_set, kb_bool_bool, kb_bool_int, kb_bool_str, kb_bool_tuple, kb_bool_list, kb_bool_dict, kb_bool_float, kb_bool_set, kb_int_bool, kb_int_int, kb_int_str, kb_int_tuple, kb_int_list, kb_int_dict, kb_int_float, kb_int_set, kb_str_bool, kb_str_int, kb_str_str, kb_str_tuple, kb_str_list, kb_str_dict, kb_str_float, kb_str_set, kb_tuple_bool, kb_tuple_int, kb_tuple_str, kb_tuple_tuple, kb_tuple_list, kb_tuple_dict, kb_tuple_float, kb_tuple_set, kb_list_bool, kb_list_int, kb_list_str, kb_list_tuple, kb_list_list, kb_list_dict, kb_list_float, kb_list_set, kb_dict_bool, kb_dict_int, kb_dict_str, kb_dict_tuple, kb_dict_list, kb_dict_dict, kb_dict_float, kb_dict_set, PySem.sizeLine_eq, inS, notInS, inA, notInA, noDct, isInD, notInD, inB, flatD, eqF, eqD, neD, eqB, scalEq, isD, isNotD, isB, ofString_beq, ofString_inj, mChain, mAndV, mOrV, mNotV, mApp, kgI, mLcX, mLcC, mIter, anyOf, noOwn, loopC, wipeG, backG, aName, mYes, frz1, tupleD, mRange1, rangeD1, small62, rangeI_len]
      · obtain ⟨Z, z0, z1, zz⟩ := number_eq r cc (hq.mono fun t h => List.mem_append_left _ h) (by omega)
        obtain ⟨x1, x2⟩ := zz 59 (by omega)
        have an : (l.any fun p => decide (p.1 = (.inr t : L2.Key))) = true := by rw [any_valK, e]; rfl
        have oq := hq.own
        refine ⟨_, .tup [.str t, .int Z], (G ns pen a2 a3 a4 (some (.dct l)) a6 (some (.dct c)) (some row) a9 a10 a11 a12).set 14 (some (.str t)), rfl, ?_, ⟨t, .int Z, rfl, rfl, ⟨(fun z => by rw [e] at z; cases z), (fun q2 z => by rw [e] at z; cases z; exact ⟨Z, rfl, x2⟩)⟩⟩, ?_⟩
        · unfold G
          simp [sSeq, sIf, sRetX, sSetX, sPut, sDrop, sRetO_eq, sRetN, sPass, sNil, mBin, mVal, mOwnIx, mOwnIxA, mOwn, mC, mTB, mAnd, mOr, mNot, mCB, mCons, mNil, mTup, mIf, mFree, mCall, mCallO, mIsi, mTru, mUn, mAndV, mOrV, mNotV, mSl, mPart, mNoPart, mCW, mMth, mPop, mOwnL, mStrip, getV_eq, getO_eq, ownL, asB, asI, optO, fin1, fnD, settleX_nil, settleX_cons, settles_nil, settle_nil, settle1_nil, settle_cons, settle1_cons, settles_cons, frz, free, frees, free1, ltD, gtD, leD, geD, ordD, intOf, absD, lenD, lenA, listW, ixD, ixA, L2.atI, L2.ixN, addD, subD, modD, fdvD, powD, Dl.intD, negD, strip_eq, isOwn_eq, truthD, isiD, tyOf, isAny, kt0, kb_NoneType_bool, kb_NoneType_int, kb_NoneType_str, kb_NoneType_tuple, kb_NoneType_list, kb_NoneType_dict, kb_NoneType_float, kb_NoneType_set, kb_bool_bool, kb_bool_int, kb_bool_str, kb_bool_tuple, kb_bool_list, kb_bool_dict, kb_bool_float, kb_bool_set, kb_int_bool, kb_int_int, kb_int_str, kb_int_tuple, kb_int_list, kb_int_dict, kb_int_float, kb_int_set, kb_str_bool, kb_str_int, kb_str_str, kb_str_tuple, kb_str_list, kb_str_dict, kb_str_float, kb_str_set, kb_tuple_bool, kb_tuple_int, kb_tuple_str, kb_tuple_tuple, kb_tuple_list, kb_tuple_dict, kb_tuple_float, kb_tuple_set, kb_list_bool, kb_list_int, kb_list_str, kb_list_tuple, kb_list_list, kb_list_dict, kb_list_float, kb_list_set, kb_dict_bool, kb_dict_int, kb_dict_str, kb_dict_tuple, kb_dict_list, kb_dict_dict, kb_dict_float, kb_dict_set, keyD, an, e, inA, ixA, oq, x2, ro, wipeG, PySem.sizeLine_eq]
        · unfold G
          simp [sSeq, sIf, sRetX, sSetX, sPut, sDrop, sRetO_eq, sRetN, sPass, sNil, mBin, mVal, mOwnIx, mOwnIxA, mOwn, mC, mTB, mAnd, mOr, mNot, mCB, mCons, mNil, mTup, mIf, mFree, mCall, mCallO, mIsi, mTru, mUn, mAndV, mOrV, mNotV, mSl, mPart, mNoPart, mCW, mMth, mPop, mOwnL, mStrip, getV_eq, getO_eq, ownL, asB, asI, optO, fin1, fnD, settleX_nil, settleX_cons, settles_nil, settle_nil, settle1_nil, settle_cons, settle1_cons, settles_cons, frz, free, frees, free1, ltD, gtD, leD, geD, ordD, intOf, absD, lenD, lenA, listW, ixD, ixA, L2.atI, L2.ixN, addD, subD, modD, fdvD, powD, Dl.intD, negD, strip_eq, isOwn_eq, truthD, isiD, tyOf, isAny, kt0, kb_NoneType_bool, kb_NoneType_int, kb_NoneType_str, kb_NoneType_tuple, kb_NoneType_list, kb_NoneType_dict, kb_NoneType_float, kb_NoneType_set, kb_bool_bool, kb_bool_int, kb_bool_str, kb_bool_tuple, kb_bool_list, kb_bool_dict, kb_bool_float, kb_bool_set, kb_int_bool, kb_int_int, kb_int_str, kb_int_tuple, kb_int_list, kb_int_dict, kb_int_float, kb_int_set, kb_str_bool, kb_str_int, kb_str_str, kb_str_tuple, kb_str_list, kb_str_dict, kb_str_float, kb_str_set, kb_tuple_bool, kb_tuple_int, kb_tuple_str, kb_tuple_tuple, kb_tuple_list, kb_tuple_dict, kb_tuple_float, kb_tuple_set, kb_list_bool, kb_list_int, kb_list_str, kb_list_tuple, kb_list_list, kb_list_dict, kb_list_float, kb_list_set, kb_dict_bool, kb_dict_int, kb_dict_str, kb_dict_tuple, kb_dict_list, kb_dict_dict, kb_dict_float, kb_dict_set, PySem.sizeLine_eq, inS, notInS, inA, notInA, noDct, isInD, notInD, inB, flatD, eqF, eqD, neD, eqB, scalEq, isD, isNotD, isB, ofString_beq, ofString_inj, mChain, mAndV, mOrV, mNotV, mApp, kgI, mLcX, mLcC, mIter, anyOf, noOwn, loopC, wipeG, backG, aName, mYes, frz1, tupleD, mRange1, rangeD1, small62, rangeI_len])
  subst h2
  obtain ⟨t, e4, _, ht⟩ := table2 t2
  have yl := t2.len
  rw [strs_len] at yl
  refine ⟨.dct t, ⟨l, c, t, rfl, rfl, rfl, fun x hx => ?_⟩, ?_⟩
  · obtain ⟨v, e, h1, h2⟩ := (ht x).2 (ddL_mem.mpr hx)
    refine ⟨fun z => by rw [e, h1 z], fun q z => ?_⟩
    obtain ⟨Z, rfl, h3⟩ := h2 q z
    exact ⟨Z, e, h3⟩
  · have hz : ys.length ≤ 16777216 := by omega
    have lz : (strsD (ddL (ta ++ st))).length ≤ 16777216 := by rw [strs_len]; omega
    have kl := keysL_T ck
    unfold G at e2 ⊢
    simp [sSeq, sIf, sRetX, sSetX, sPut, sDrop, sRetO_eq, sRetN, sPass, sNil, mBin, mVal, mOwnIx, mOwnIxA, mOwn, mC, mTB, mAnd, mOr, mNot, mCB, mCons, mNil, mTup, mIf, mFree, mCall, mCallO, mIsi, mTru, mUn, mAndV, mOrV, mNotV, mSl, mPart, mNoPart, mCW, mMth, mPop, mOwnL, mStrip, getV_eq, getO_eq, ownL, asB, asI, optO, fin1, fnD, settleX_nil, settleX_cons, settles_nil, settle_nil, settle1_nil, settle_cons, settle1_cons, settles_cons, frz, free, frees, free1, ltD, gtD, leD, geD, ordD, intOf, absD, lenD, lenA, listW, ixD, ixA, L2.atI, L2.ixN, addD, subD, modD, fdvD, powD, Dl.intD, negD, strip_eq, isOwn_eq, truthD, isiD, tyOf, isAny, kt0, kb_NoneType_bool, kb_NoneType_int, kb_NoneType_str, kb_NoneType_tuple, kb_NoneType_list, kb_NoneType_dict, kb_NoneType_float, kb_NoneType_set, kb_bool_bool, kb_bool_int, kb_bool_str, kb_bool_tuple, kb_bool_list, kb_bool_dict, kb_bool_float, kb_bool_set, kb_int_bool, kb_int_int, kb_int_str, kb_int_tuple, kb_int_list, kb_int_dict, kb_int_float, kb_int_set, kb_str_bool, kb_str_int, kb_str_str, kb_str_tuple, kb_str_list, kb_str_dict, kb_str_float, kb_str_set, kb_tuple_bool, kb_tuple_int, kb_tuple_str, kb_tuple_tuple, kb_tuple_list, kb_tuple_dict, kb_tuple_float, kb_tuple_set, kb_list_bool, kb_list_int, kb_list_str, kb_list_tuple, kb_list_list, kb_list_dict, kb_list_float, kb_list_set, kb_dict_bool, kb_dict_int, kb_dict_str, kb_dict_tuple, kb_dict_list, kb_dict_dict, kb_dict_float, kb_dict_set, kl, ofDct, lz, mLcX, mLcC, mIter, anyOf, noOwn, PySem.sizeLine_eq, hz, e2, e4]
theorem fi_st {ns : List Int} {ta st co : List S} {q told kn row cnt more : D} {s d m : Nat} {a2 a3 a10 a11 a12 : Option D} (N : NN ta st co) (hq : QT (ta ++ st) co q s d m) (hd : d ≤ 4) (hm : m ≤ 31) (kk : KnOk (ta ++ st) ta co kn) (r : RowOk co row) (cc : CntOk (ta ++ st) cnt) (mo : MoOk (ta ++ st) kn cnt row more) (ht : callF 59 4 [q, kn] = .ret told []) :
    fiM (callF 59) (G ns pen a2 a3 (some q) (some kn) (some told) (some cnt) (some row) (some more) a10 a11 a12) = .next (G ns pen a2 a3 (some q) (some kn) (some told) (some cnt) (some row) (some more) a10 a11 a12) := by
  obtain ⟨told', m', Z, _, ot, _, _, h⟩ := numbers (fun t h => List.mem_append_left _ h) r cc kk mo hq (by omega)
  obtain ⟨h1, h2, h3⟩ := h 59 (by omega)
  have e := ret_inj (ht.symm.trans h1)
  subst e
  have oq := hq.own
  have co := cc.own
  have ro := r.own
  have meo : isOwnD more = false := by obtain ⟨l, x, e, _, _, rfl, _⟩ := mo; rfl
  unfold G
  simp [sSeq, sIf, sRetX, sSetX, sPut, sDrop, sRetO_eq, sRetN, sPass, sNil, mBin, mVal, mOwnIx, mOwnIxA, mOwn, mC, mTB, mAnd, mOr, mNot, mCB, mCons, mNil, mTup, mIf, mFree, mCall, mCallO, mIsi, mTru, mUn, mAndV, mOrV, mNotV, mSl, mPart, mNoPart, mCW, mMth, mPop, mOwnL, mStrip, getV_eq, getO_eq, ownL, asB, asI, optO, fin1, fnD, settleX_nil, settleX_cons, settles_nil, settle_nil, settle1_nil, settle_cons, settle1_cons, settles_cons, frz, free, frees, free1, ltD, gtD, leD, geD, ordD, intOf, absD, lenD, lenA, listW, ixD, ixA, L2.atI, L2.ixN, addD, subD, modD, fdvD, powD, Dl.intD, negD, strip_eq, isOwn_eq, truthD, isiD, tyOf, isAny, kt0, kb_NoneType_bool, kb_NoneType_int, kb_NoneType_str, kb_NoneType_tuple, kb_NoneType_list, kb_NoneType_dict, kb_NoneType_float, kb_NoneType_set, kb_bool_bool, kb_bool_int, kb_bool_str, kb_bool_tuple, kb_bool_list, kb_bool_dict, kb_bool_float, kb_bool_set, kb_int_bool, kb_int_int, kb_int_str, kb_int_tuple, kb_int_list, kb_int_dict, kb_int_float, kb_int_set, kb_str_bool, kb_str_int, kb_str_str, kb_str_tuple, kb_str_list, kb_str_dict, kb_str_float, kb_str_set, kb_tuple_bool, kb_tuple_int, kb_tuple_str, kb_tuple_tuple, kb_tuple_list, kb_tuple_dict, kb_tuple_float, kb_tuple_set, kb_list_bool, kb_list_int, kb_list_str, kb_list_tuple, kb_list_list, kb_list_dict, kb_list_float, kb_list_set, kb_dict_bool, kb_dict_int, kb_dict_str, kb_dict_tuple, kb_dict_list, kb_dict_dict, kb_dict_float, kb_dict_set, PySem.sizeLine_eq, inS, notInS, inA, notInA, noDct, isInD, notInD, inB, flatD, eqF, eqD, neD, eqB, scalEq, isD, isNotD, isB, ofString_beq, ofString_inj, mChain, mAndV, mOrV, mNotV, mApp, kgI, h2, h3, oq, co, ro, meo, ot]
end Lw
set_option maxHeartbeats 0
/-! L04f: k04, the law. -/
namespace Lw
open Dl
variable {cs : List Int} {k : Int} {pen : D}
abbrev outM (cf : Nat → List D → OutF) : MS := sSeq (nmM cf) (sSeq (spM cf) (sSeq (quM cf) (sSeq (naM cf) (sSeq (knM cf) (sSeq (toM cf) (sSeq (rpM cf) (sSeq (cnM cf) (sSeq (roM cf) (sSeq (moM cf) (fiM cf))))))))))
theorem sSeq_2 {f g h : MS} {Γ Γ1 : Env} (e : sSeq f g Γ = .next Γ1) : sSeq f (sSeq g h) Γ = h Γ1 := by
  unfold sSeq at e ⊢
  cases e1 : f Γ with
  | next Γ2 =>
    rw [e1] at e
    show (match g Γ2 with | .next Γ => h Γ | o => o) = _
    rw [show g Γ2 = _ from e]
  | ret d Γ2 => rw [e1] at e; cases e
  | exc d Γ2 => rw [e1] at e; cases e
  | brk Γ2 => rw [e1] at e; cases e
  | cont Γ2 => rw [e1] at e; cases e
  | bad => rw [e1] at e; cases e
theorem out_st {ns : List Int} {a2 a3 a4 a5 a6 a7 a8 a9 a10 a11 a12 : Option D} (O : PenOk ns) (h : Pn ns k pen) (hk : k ≤ 500000) :
    ∃ pen' b3 b4 b5 b6 b7 b8 b9 b10 b11 b12, Pn ns (k + 1000) pen' ∧ outM (callF 59) (G ns pen a2 a3 a4 a5 a6 a7 a8 a9 a10 a11 a12) = .next (G ns pen' a2 b3 b4 b5 b6 b7 b8 b9 b10 b11 b12) := by
  obtain ⟨ta, st, co, p1, b3, N, h1, e1⟩ := nm_st (n := 56) (a2 := a2) (a3 := a3) (a4 := a4) (a5 := a5) (a6 := a6) (a7 := a7) (a8 := a8) (a9 := a9) (a10 := a10) (a11 := a11) (a12 := a12) O h (by omega)
  obtain ⟨q, p2, s, d, m, hq, hd, hm, h2, e2⟩ := qu_st (a2 := a2) (a3 := b3) (a4 := a4) (a5 := a5) (a6 := a6) (a7 := a7) (a8 := a8) (a9 := a9) O N h1 (by omega)
  have e3 := na_st (ns := ns) (pen := p2) (a2 := a2) (a3 := b3) (a5 := a5) (a6 := a6) (a7 := a7) (a8 := a8) (a9 := a9) (a10 := some (.lst (strsD ta))) (a11 := some (.lst (strsD st))) (a12 := some (.lst (strsD co))) N.ok N.okc hq hd hm
  obtain ⟨kn, p3, kk, h3, e4⟩ := kn_st (a2 := a2) (a3 := b3) (a4 := some q) (a5 := a5) (a6 := a6) (a7 := a7) (a8 := a8) (a9 := a9) O N h2 (by omega)
  obtain ⟨told, ot, et, e5⟩ := to_st (ns := ns) (pen := p3) (a2 := a2) (a3 := b3) (a6 := a6) (a7 := a7) (a8 := a8) (a9 := a9) (a10 := some (.lst (strsD ta))) (a11 := some (.lst (strsD st))) (a12 := some (.lst (strsD co))) N hq hd hm kk
  obtain ⟨cnt, c, p4, ec, cc, ck, h4, e6⟩ := cn_st (a2 := a2) (a3 := b3) (a4 := some q) (a5 := some kn) (a6 := some told) (a7 := a7) (a8 := a8) (a9 := a9) (a12 := some (.lst (strsD co))) O N h3 (by omega)
  obtain ⟨row, p5, hr, h5, e7⟩ := ro_st (a2 := a2) (a3 := b3) (a4 := some q) (a5 := some kn) (a6 := some told) (a7 := some cnt) (a8 := a8) (a9 := a9) (a10 := some (.lst (strsD ta))) (a11 := some (.lst (strsD st))) O h4 (by omega) N.c2
  obtain ⟨more, mo, e8⟩ := mo_st (ns := ns) (pen := p5) (a2 := a2) (a3 := b3) (a4 := some q) (a6 := some told) (a9 := a9) (a10 := some (.lst (strsD ta))) (a11 := some (.lst (strsD st))) (a12 := some (.lst (strsD co))) N kk hr ec cc ck
  have e9 := fi_st (ns := ns) (pen := p5) (a2 := a2) (a3 := b3) (a10 := some (.lst (strsD ta))) (a11 := some (.lst (strsD st))) (a12 := some (.lst (strsD co))) N hq hd hm kk hr cc mo et
  refine ⟨p5, b3, some q, some kn, some told, some cnt, some row, some more, some (.lst (strsD ta)), some (.lst (strsD st)), some (.lst (strsD co)), h5.mono (by omega), ?_⟩
  unfold outM
  rw [sSeq_2 e1, sSeq_next e2, sSeq_next e3, sSeq_next e4, sSeq_2 e5, sSeq_next e6, sSeq_next e7, sSeq_next e8, e9]
abbrev enM (cf : Nat → List D → OutF) : MS := (sRetX [] (mAndV (mBin eqD (mStrip (mCall (cf 4) (mCons (mTup (mCons (mC (.str "none")) mNil)) (mCons (mStrip (mDisp [.inr "a"] (mCons (mTup (mCons (mC (.str "of")) (mCons (mC (.str "b")) mNil))) mNil))) mNil)))) (mTup (mCons (mC (.str "none")) mNil))) (mBin eqD (mStrip (mCall (cf 3) (mCons (mTup (mCons (mC (.str "none")) mNil)) mNil))) (mTup mNil))))
theorem bd17_eq (cf : Nat → List D → OutF) : bd17 cf = sSeq (sSetX 1 [] (mCall (cf 5) (mCons (mVal 0) mNil))) (sSeq (sFor [] (mRange1 (mCons (mC (.int 10)) mNil)) (aName 2) (outM cf)) (enM cf)) := rfl
theorem law {ns : List Int} (hl : ns.length ≤ 63) (hb : ∀ z ∈ ns, PySem.Builtin.Int.intBits z ≤ 1048576) : ∃ io, callF 60 17 [.scr ns] = .ret (.bl true) io := by
  have O : PenOk ns := ⟨hl, hb⟩
  rw [cf17]
  have s1 : sSetX 1 [] (mCall (callF 59 5) (mCons (mVal 0) mNil)) ([.scr ns].map some ++ List.replicate 15 none) = .next (G ns (penD ns 0 0) none none none none none none none none none none none) := by
    have e := pen0 (n := 58) hl
    unfold penD at e ⊢
    unfold G
    simp [sSeq, sIf, sRetX, sSetX, sPut, sDrop, sRetO_eq, sRetN, sPass, sNil, mBin, mVal, mOwnIx, mOwnIxA, mOwn, mC, mTB, mAnd, mOr, mNot, mCB, mCons, mNil, mTup, mIf, mFree, mCall, mCallO, mIsi, mTru, mUn, mAndV, mOrV, mNotV, mSl, mPart, mNoPart, mCW, mMth, mPop, mOwnL, mStrip, getV_eq, getO_eq, ownL, asB, asI, optO, fin1, fnD, settleX_nil, settleX_cons, settles_nil, settle_nil, settle1_nil, settle_cons, settle1_cons, settles_cons, frz, free, frees, free1, ltD, gtD, leD, geD, ordD, intOf, absD, lenD, lenA, listW, ixD, ixA, L2.atI, L2.ixN, addD, subD, modD, fdvD, powD, Dl.intD, negD, strip_eq, isOwn_eq, truthD, isiD, tyOf, isAny, kt0, kb_NoneType_bool, kb_NoneType_int, kb_NoneType_str, kb_NoneType_tuple, kb_NoneType_list, kb_NoneType_dict, kb_NoneType_float, kb_NoneType_set, kb_bool_bool, kb_bool_int, kb_bool_str, kb_bool_tuple, kb_bool_list, kb_bool_dict, kb_bool_float, kb_bool_set, kb_int_bool, kb_int_int, kb_int_str, kb_int_tuple, kb_int_list, kb_int_dict, kb_int_float, kb_int_set, kb_str_bool, kb_str_int, kb_str_str, kb_str_tuple, kb_str_list, kb_str_dict, kb_str_float, kb_str_set, kb_tuple_bool, kb_tuple_int, kb_tuple_str, kb_tuple_tuple, kb_tuple_list, kb_tuple_dict, kb_tuple_float, kb_tuple_set, kb_list_bool, kb_list_int, kb_list_str, kb_list_tuple, kb_list_list, kb_list_dict, kb_list_float, kb_list_set, kb_dict_bool, kb_dict_int, kb_dict_str, kb_dict_tuple, kb_dict_list, kb_dict_dict, kb_dict_float, kb_dict_set, e]
  obtain ⟨Γ, s2, h2⟩ : ∃ Γ, sFor [] (mRange1 (mCons (mC (.int 10)) mNil)) (aName 2) (outM (callF 59)) (G ns (penD ns 0 0) none none none none none none none none none none none) = .next Γ ∧ ∃ pen a2 a3 a4 a5 a6 a7 a8 a9 a10 a11 a12, Γ = G ns pen a2 a3 a4 a5 a6 a7 a8 a9 a10 a11 a12 := by
    obtain ⟨Γ, e, pen, a2, a3, a4, a5, a6, a7, a8, a9, a10, a11, a12, e2, hp⟩ := loopS_all (g := aName 2) (f := outM (callF 59))
      (fun i Γ => ∃ pen a2 a3 a4 a5 a6 a7 a8 a9 a10 a11 a12, Γ = G ns pen a2 a3 a4 a5 a6 a7 a8 a9 a10 a11 a12 ∧ Pn ns (0 + 1000 * (i : Int)) pen) (rangeI 0 10) 0 (G ns (penD ns 0 0) none none none none none none none none none none none) ⟨_, _, _, _, _, _, _, _, _, _, _, _, rfl, 0, 0, rfl, by omega, by omega, by omega⟩ (by
      rintro i d Γ hi ⟨pen, a2, a3, a4, a5, a6, a7, a8, a9, a10, a11, a12, rfl, hp⟩
      obtain ⟨h8, rfl⟩ := rangeI_get hi
      obtain ⟨pen', b3, b4, b5, b6, b7, b8, b9, b10, b11, b12, hp', e⟩ := out_st (a2 := some (.int (0 + i))) (a3 := a3) (a4 := a4) (a5 := a5) (a6 := a6) (a7 := a7) (a8 := a8) (a9 := a9) (a10 := a10) (a11 := a11) (a12 := a12) O hp (by omega)
      exact ⟨_, _, rfl, e, pen', _, b3, b4, b5, b6, b7, b8, b9, b10, b11, b12, rfl, hp'.mono (by omega)⟩)
    refine ⟨Γ, ?_, pen, a2, a3, a4, a5, a6, a7, a8, a9, a10, a11, a12, e2⟩
    rw [← e]
    unfold outM
    simp [sSeq, sIf, sRetX, sSetX, sPut, sDrop, sRetO_eq, sRetN, sPass, sNil, mBin, mVal, mOwnIx, mOwnIxA, mOwn, mC, mTB, mAnd, mOr, mNot, mCB, mCons, mNil, mTup, mIf, mFree, mCall, mCallO, mIsi, mTru, mUn, mAndV, mOrV, mNotV, mSl, mPart, mNoPart, mCW, mMth, mPop, mOwnL, mStrip, getV_eq, getO_eq, ownL, asB, asI, optO, fin1, fnD, settleX_nil, settleX_cons, settles_nil, settle_nil, settle1_nil, settle_cons, settle1_cons, settles_cons, frz, free, frees, free1, ltD, gtD, leD, geD, ordD, intOf, absD, lenD, lenA, listW, ixD, ixA, L2.atI, L2.ixN, addD, subD, modD, fdvD, powD, Dl.intD, negD, strip_eq, isOwn_eq, truthD, isiD, tyOf, isAny, kt0, kb_NoneType_bool, kb_NoneType_int, kb_NoneType_str, kb_NoneType_tuple, kb_NoneType_list, kb_NoneType_dict, kb_NoneType_float, kb_NoneType_set, kb_bool_bool, kb_bool_int, kb_bool_str, kb_bool_tuple, kb_bool_list, kb_bool_dict, kb_bool_float, kb_bool_set, kb_int_bool, kb_int_int, kb_int_str, kb_int_tuple, kb_int_list, kb_int_dict, kb_int_float, kb_int_set, kb_str_bool, kb_str_int, kb_str_str, kb_str_tuple, kb_str_list, kb_str_dict, kb_str_float, kb_str_set, kb_tuple_bool, kb_tuple_int, kb_tuple_str, kb_tuple_tuple, kb_tuple_list, kb_tuple_dict, kb_tuple_float, kb_tuple_set, kb_list_bool, kb_list_int, kb_list_str, kb_list_tuple, kb_list_list, kb_list_dict, kb_list_float, kb_list_set, kb_dict_bool, kb_dict_int, kb_dict_str, kb_dict_tuple, kb_dict_list, kb_dict_dict, kb_dict_float, kb_dict_set, sFor, mRange1, rangeD1, small62]
  obtain ⟨pen, a2, a3, a4, a5, a6, a7, a8, a9, a10, a11, a12, rfl⟩ := h2
  have e1 : callF 59 4 [.tup [.str "none"], .dct [(.inr "a", .tup [.str "of", .str "b"])]] = .ret (.tup [.str "none"]) [] := (r_none (n := 58) rfl).1
  have e2 : callF 59 3 [.tup [.str "none"]] = .ret (.tup []) [] := names_in (names := []) (cols := []) ⟨by simp⟩ ⟨by simp⟩ (.none) (by omega) (by omega) .none 59 (by omega)
  have q1 : eqD (.tup [.str "none"]) (.tup [.str "none"]) = some (.bl true) := eq_self (by decide +kernel) (by decide)
  have q2 : eqD (.tup []) (.tup []) = some (.bl true) := eq_self rfl (by decide)
  have en : enM (callF 59) (G ns pen a2 a3 a4 a5 a6 a7 a8 a9 a10 a11 a12) = .ret (.bl true) (G ns pen a2 a3 a4 a5 a6 a7 a8 a9 a10 a11 a12) := by
    unfold G
    simp [sSeq, sIf, sRetX, sSetX, sPut, sDrop, sRetO_eq, sRetN, sPass, sNil, mBin, mVal, mOwnIx, mOwnIxA, mOwn, mC, mTB, mAnd, mOr, mNot, mCB, mCons, mNil, mTup, mIf, mFree, mCall, mCallO, mIsi, mTru, mUn, mAndV, mOrV, mNotV, mSl, mPart, mNoPart, mCW, mMth, mPop, mOwnL, mStrip, getV_eq, getO_eq, ownL, asB, asI, optO, fin1, fnD, settleX_nil, settleX_cons, settles_nil, settle_nil, settle1_nil, settle_cons, settle1_cons, settles_cons, frz, free, frees, free1, ltD, gtD, leD, geD, ordD, intOf, absD, lenD, lenA, listW, ixD, ixA, L2.atI, L2.ixN, addD, subD, modD, fdvD, powD, Dl.intD, negD, strip_eq, isOwn_eq, truthD, isiD, tyOf, isAny, kt0, kb_NoneType_bool, kb_NoneType_int, kb_NoneType_str, kb_NoneType_tuple, kb_NoneType_list, kb_NoneType_dict, kb_NoneType_float, kb_NoneType_set, kb_bool_bool, kb_bool_int, kb_bool_str, kb_bool_tuple, kb_bool_list, kb_bool_dict, kb_bool_float, kb_bool_set, kb_int_bool, kb_int_int, kb_int_str, kb_int_tuple, kb_int_list, kb_int_dict, kb_int_float, kb_int_set, kb_str_bool, kb_str_int, kb_str_str, kb_str_tuple, kb_str_list, kb_str_dict, kb_str_float, kb_str_set, kb_tuple_bool, kb_tuple_int, kb_tuple_str, kb_tuple_tuple, kb_tuple_list, kb_tuple_dict, kb_tuple_float, kb_tuple_set, kb_list_bool, kb_list_int, kb_list_str, kb_list_tuple, kb_list_list, kb_list_dict, kb_list_float, kb_list_set, kb_dict_bool, kb_dict_int, kb_dict_str, kb_dict_tuple, kb_dict_list, kb_dict_dict, kb_dict_float, kb_dict_set, mDisp, mergeD, putD, e1, e2, q1, q2, PySem.sizeLine_eq]
  refine fn_true rfl (o := enM (callF 59) (G ns pen a2 a3 a4 a5 a6 a7 a8 a9 a10 a11 a12)) ?_ (by rw [en]; rfl)
  rw [bd17_eq, sSeq_next s1, sSeq_next s2]
end Lw
theorem PySem.Challenge.cw_neverdearer_k04_names_and_what_stands_in_holds : PySem.Challenge.rw_neverdearer_k04_names_and_what_stands_in.Holds := by
  exact law_holds fun ns hl hb => Lw.law hl hb
