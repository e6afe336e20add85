import PyProof.Rows.All
import Wide.All
import OpenK.AllK
import Wide.FinOn
import HandS.ForMost
import HandS.Wide
import HandS.TupAny
import HandS.TupMul
import HandS.EndBits
import HandS.Zip
import HandS.Deep
import KE.DataMinMax
import KE.DataCmp
import KE.SortData
import KE.KTupSum
import HandS.Style
import KE.GoesEnum
import PySem.Challenge.RW_evensigns_k29_whole_main_table_squares
set_option Elab.async false
set_option linter.all false
set_option maxRecDepth 100000
set_option maxHeartbeats 4000000
set_option autoImplicit false
namespace FL
open PySem PySem.Spec PyProof.Rows L2

abbrev D := PyData

/-! ### what stays -/
theorem sq_t {K : PySem.W.Frag} {B H : Hp} {a : Addr} {xs : List V}
    (e : Same B H) (h : SqT K B a xs) : SqT K H a xs := by
  rcases h with (h | ⟨o, h⟩) | h
  · exact .inl (.inl (e _ _ h))
  · exact .inl (.inr ⟨o, e _ _ h⟩)
  · exact .inr h
mutual
/-- a value reads as data, over what is known -/
inductive Dq (K : PySem.W.Frag) (H : Hp) : V → D → Prop
  | non : Dq K H .non .none
  | bl (b : Bool) : Dq K H (.bl b) (.bool b)
  | int (i : Int) : Dq K H (.int i) (.int i)
  | str (x : Str) : Dq K H (.str x) (.str x)
  | lst {a : Addr} {xs : List V} {ds : List D} :
      H a = some (.lst xs) → DqAll K H xs ds → Dq K H (.ref a) (.list ds)
  | tup {a : Addr} {xs : List V} {ds : List D} :
      SqT K H a xs → DqAll K H xs ds → Dq K H (.ref a) (.tuple ds)
inductive DqAll (K : PySem.W.Frag) (H : Hp) : List V → List D → Prop
  | nil : DqAll K H [] []
  | cons {v : V} {vs : List V} {d : D} {ds : List D} :
      Dq K H v d → DqAll K H vs ds → DqAll K H (v :: vs) (d :: ds)
end
mutual
theorem Dq.p {K : PySem.W.Frag} {H : Hp} : ∀ (d : D) (v : V), Dq K H v d → Dp K H v d
  | .none, _, h => by cases h; exact .non
  | .bool _, _, h => by cases h; exact .bl _
  | .int _, _, h => by cases h; exact .int _
  | .str _, _, h => by cases h; exact .str _
  | .list ds, _, h => by
    cases h with
    | lst hs ha => exact .lst (SqL.of hs) (DqAll.p ds _ ha)
  | .tuple ds, _, h => by
    cases h with
    | tup hs ha => exact .tup hs (DqAll.p ds _ ha)
  | .dict _, _, h => by cases h
theorem DqAll.p {K : PySem.W.Frag} {H : Hp} : ∀ (ds : List D) (vs : List V), DqAll K H vs ds → DpAll K H vs ds
  | [], _, h => by cases h; exact .nil
  | d :: ds, _, h => by
    cases h with
    | cons h1 h2 => exact .cons (Dq.p d _ h1) (DqAll.p ds _ h2)
end
mutual
theorem Dq_up {K : PySem.W.Frag} {B H : Hp} (e : Same B H) :
    ∀ (d : D) (v : V), Dq K B v d → Dq K H v d
  | .none, _, h => by cases h; exact .non
  | .bool _, _, h => by cases h; exact .bl _
  | .int _, _, h => by cases h; exact .int _
  | .str _, _, h => by cases h; exact .str _
  | .list ds, _, h => by
    cases h with
    | lst hs ha => exact .lst (e _ _ hs) (DqA_up e ds _ ha)
  | .tuple ds, _, h => by
    cases h with
    | tup hs ha => exact .tup (sq_t e hs) (DqA_up e ds _ ha)
  | .dict _, _, h => by cases h
theorem DqA_up {K : PySem.W.Frag} {B H : Hp} (e : Same B H) :
    ∀ (ds : List D) (vs : List V), DqAll K B vs ds → DqAll K H vs ds
  | [], _, h => by cases h; exact .nil
  | d :: ds, _, h => by
    cases h with
    | cons h1 h2 => exact .cons (Dq_up e d _ h1) (DqA_up e ds _ h2)
end
theorem DqAll.len {K : PySem.W.Frag} {B : Hp} : ∀ {vs : List V} {ds : List D}, DqAll K B vs ds → vs.length = ds.length
  | [], [], _ => rfl
  | _ :: _, _ :: _, .cons _ h => by
    rw [List.length_cons, List.length_cons, DqAll.len h]
theorem DqAll.at {K : PySem.W.Frag} {B : Hp} : ∀ {vs : List V} {ds : List D} {i : Nat} {v : V} {d : D}, DqAll K B vs ds → vs[i]? = some v → ds[i]? = some d → Dq K B v d
  | _ :: _, _ :: _, 0, _, _, .cons h _, e1, e2 => by
    simp at e1 e2; subst e1; subst e2; exact h
  | _ :: _, _ :: _, i + 1, _, _, .cons _ h, e1, e2 => by
    simp at e1 e2; exact DqAll.at h e1 e2
theorem DqAll.app {K : PySem.W.Frag} {B : Hp} : ∀ {vs ws : List V} {ds es : List D}, DqAll K B vs ds → DqAll K B ws es → DqAll K B (vs ++ ws) (ds ++ es)
  | [], _, [], _, _, h => h
  | _ :: _, _, _ :: _, _, .cons h t, g => .cons h (DqAll.app t g)
theorem DqAll.has {K : PySem.W.Frag} {B : Hp} {vs : List V} {ds : List D} {i : Nat} {d : D} (h : DqAll K B vs ds) (e : ds[i]? = some d) :
    ∃ v, vs[i]? = some v ∧ Dq K B v d := by
  have hl := DqAll.len h
  obtain ⟨hi, _⟩ := List.getElem?_eq_some_iff.mp e
  have hv : vs[i]? = some (vs[i]'(by omega)) := List.getElem?_eq_getElem (by omega)
  exact ⟨_, hv, DqAll.at h hv e⟩
theorem DqAll.has' {K : PySem.W.Frag} {B : Hp} {vs : List V} {ds : List D} {i : Nat} {v : V} (h : DqAll K B vs ds) (e : vs[i]? = some v) :
    ∃ d, ds[i]? = some d ∧ Dq K B v d := by
  have hl := DqAll.len h
  obtain ⟨hi, _⟩ := List.getElem?_eq_some_iff.mp e
  have hv : ds[i]? = some (ds[i]'(by omega)) := List.getElem?_eq_getElem (by omega)
  exact ⟨_, hv, DqAll.at h e hv⟩
theorem DqAll.put {K : PySem.W.Frag} {B : Hp} {v : V} {d : D} (r : Dq K B v d) : ∀ {vs : List V} {ds : List D} (i : Nat), DqAll K B vs ds → DqAll K B (vs.set i v) (ds.set i d)
  | _, _, _, .nil => .nil
  | _, _, 0, .cons _ t => .cons r t
  | _, _, i + 1, .cons q t => .cons q (DqAll.put r i t)
theorem DqAll.cut {K : PySem.W.Frag} {B : Hp} : ∀ {vs : List V} {ds : List D} (n : Nat), DqAll K B vs ds → DqAll K B (vs.take n) (ds.take n)
  | _, _, 0, _ => .nil
  | _, _, _ + 1, .nil => .nil
  | _, _, n + 1, .cons q t => .cons q (DqAll.cut n t)
theorem DqAll.rest {K : PySem.W.Frag} {B : Hp} : ∀ {vs : List V} {ds : List D} (n : Nat), DqAll K B vs ds → DqAll K B (vs.drop n) (ds.drop n)
  | _, _, 0, h => h
  | _, _, _ + 1, .nil => .nil
  | _, _, n + 1, .cons _ t => DqAll.rest n t
theorem DqAll.rev {K : PySem.W.Frag} {B : Hp} : ∀ {vs : List V} {ds : List D}, DqAll K B vs ds → DqAll K B vs.reverse ds.reverse
  | _, _, .nil => .nil
  | _, _, .cons q t => by
    rw [List.reverse_cons, List.reverse_cons]
    exact DqAll.app (DqAll.rev t) (.cons q .nil)

/-! ### slots -/
inductive Sl where
  | un
  | val (d : D)
  | own (ds : List D)
  | pot
abbrev Sg := List Sl

/-- an object that is changed by reference (the drawing pot): its address, its list's address -/
structure PotK (π : Type) where
  fp : Addr → Addr → List Addr
  ok : Addr → Addr → Hp → π → Prop
  loc : ∀ a g H H' p, (∀ b ∈ fp a g, H' b = H b) → ok a g H p → ok a g H' p
  trk : ∀ a g H p, ok a g H p → ∀ b ∈ fp a g, H b ≠ none
def noPot : PotK Unit := ⟨fun _ _ => [], fun _ _ _ _ => True, fun _ _ _ _ _ _ _ => trivial, fun _ _ _ _ _ _ h => by cases h⟩

/-- what a body stands in: the pot, what is not to be known, the heap at its entry -/
structure Fx where
  pa : Addr
  g : Addr
  N : Addr → Prop
  H0 : Hp

structure Rep {π : Type} (K : PySem.W.Frag) (Z : PotK π) (F : Fx) (B : Hp) (vs : L2.St) (H : Hp) (σ : Sg) (p : π) : Prop where
  sub : Same B H
  old : ∀ a o, a ∉ Z.fp F.pa F.g → F.H0 a = some o → H a = some o
  pok : Z.ok F.pa F.g H p
  potN : ∀ a ∈ Z.fp F.pa F.g, F.N a
  noB : ∀ a, F.N a → B a = none
  noH : ∀ a, F.N a → H a ≠ none
  len : vs.length = σ.length
  val : ∀ (i : Nat) (d : D), σ[i]? = some (.val d) → ∃ v, vs[i]? = some (some v) ∧ Dq K B v d
  own : ∀ (i : Nat) (ds : List D), σ[i]? = some (.own ds) → ∃ a xs, vs[i]? = some (some (.ref a)) ∧ H a = some (.lst xs) ∧ DqAll K B xs ds ∧ B a = none ∧ F.H0 a = none ∧ ¬ F.N a
  pot : ∀ i : Nat, σ[i]? = some Sl.pot → vs[i]? = some (some (.ref F.pa))
  apart : ∀ (i j : Nat) (a : Addr) (xs ys : List D), vs[i]? = some (some (.ref a)) → vs[j]? = some (some (.ref a)) → σ[i]? = some (.own xs) → σ[j]? = some (.own ys) → i = j

/-- growth: new objects alone -/
structure Gr (B H B' H' : Hp) : Prop where
  b : Same B B'
  h : Same H H'
  s : Same B' H'
  n : ∀ a, B' a ≠ none → B a ≠ none ∨ H a = none
theorem Gr.refl {B H : Hp} (s : Same B H) : Gr B H B H := ⟨Same.refl B, Same.refl H, s, fun _ h => .inl h⟩
theorem Gr.trans {B H B1 H1 B2 H2 : Hp} (x : Gr B H B1 H1) (y : Gr B1 H1 B2 H2) : Gr B H B2 H2 :=
  ⟨x.b.trans y.b, x.h.trans y.h, y.s, fun a h => by
    rcases y.n a h with z | z
    · exact x.n a z
    · exact .inr (x.h.free z)⟩
theorem Same.put {B : Hp} {p : Addr} {o : HO} (hb : B p = none) : Same B (upd B p o) := fun a u e => by
  rw [upd_ne (ne_of_none e hb)]; exact e
/-- an object laid anew, known from then on -/
theorem Gr.new {B H : Hp} {p : Addr} {o : HO} (s : Same B H) (hp : H p = none) : Gr B H (upd B p o) (upd H p o) := by
  refine ⟨Same.put (s.free hp), Same.put hp, fun a u e => ?_, fun a h => ?_⟩
  · by_cases z : a = p
    · subst z; rw [upd_same] at e ⊢; exact e
    · rw [upd_ne z] at e ⊢; exact s a u e
  · by_cases z : a = p
    · subst z; exact .inr hp
    · rw [upd_ne z] at h; exact .inl h
/-- laid anew, not yet known -/
theorem Gr.lay {B H : Hp} {p : Addr} {o : HO} (s : Same B H) (hp : H p = none) : Gr B H B (upd H p o) := by
  refine ⟨Same.refl B, Same.put hp, fun a u e => ?_, fun a h => .inl h⟩
  rw [upd_ne (ne_of_none (s a u e) hp)]; exact s a u e
/-- growth, the pot turned -/
structure GrZ {π : Type} (Z : PotK π) (pa g : Addr) (B H B' H' : Hp) (p' : π) : Prop where
  b : Same B B'
  h : ∀ a o, a ∉ Z.fp pa g → H a = some o → H' a = some o
  s : Same B' H'
  n : ∀ a, B' a ≠ none → B a ≠ none ∨ H a = none
  k : Z.ok pa g H' p'

section
variable {π : Type} {K : PySem.W.Frag} {Z : PotK π} {F : Fx} {B B' : Hp} {vs : L2.St} {H H' : Hp} {σ : Sg} {p p' : π}
theorem Rep.growZ (r : Rep K Z F B vs H σ p) (x : GrZ Z F.pa F.g B H B' H' p') : Rep K Z F B' vs H' σ p' where
  sub := x.s
  old := fun a o n e => x.h a o n (r.old a o n e)
  pok := x.k
  potN := r.potN
  noB := fun a ha => by
    cases e : B' a with
    | none => rfl
    | some o =>
      rcases x.n a (by rw [e]; simp) with z | z
      · exact absurd (r.noB a ha) z
      · exact absurd z (r.noH a ha)
  noH := fun a ha => by
    by_cases z : a ∈ Z.fp F.pa F.g
    · exact Z.trk F.pa F.g H' p' x.k a z
    · cases e : H a with
      | none => exact absurd e (r.noH a ha)
      | some o => rw [x.h a o z e]; simp
  len := r.len
  val := fun i d e => by
    obtain ⟨v, h1, h2⟩ := r.val i d e
    exact ⟨v, h1, Dq_up x.b d v h2⟩
  own := fun i ds e => by
    obtain ⟨a, xs, h1, h2, h3, h4, h5, h6⟩ := r.own i ds e
    refine ⟨a, xs, h1, x.h a _ (fun z => h6 (r.potN a z)) h2, DqA_up x.b ds xs h3, ?_, h5, h6⟩
    cases q : B' a with
    | none => rfl
    | some o =>
      rcases x.n a (by rw [q]; simp) with z | z
      · exact absurd h4 z
      · rw [z] at h2; cases h2
  pot := r.pot
  apart := r.apart
theorem Rep.gz (r : Rep K Z F B vs H σ p) (x : Gr B H B' H') : GrZ Z F.pa F.g B H B' H' p :=
  ⟨x.b, fun a o _ e => x.h a o e, x.s, x.n, Z.loc F.pa F.g H H' p (fun b hb => by
    cases e : H b with
    | none => exact absurd e (Z.trk F.pa F.g H p r.pok b hb)
    | some o => exact x.h b o e) r.pok⟩
theorem Rep.grow (r : Rep K Z F B vs H σ p) (x : Gr B H B' H') : Rep K Z F B' vs H' σ p := r.growZ (r.gz x)
/-- other slots over the same heap: what differs was neither owned nor the pot -/
theorem Rep.back {vs2 : L2.St} {σ2 : Sg} {B0 H2 : Hp} (r : Rep K Z F B0 vs2 H2 σ2 p') (r0 : Rep K Z F B vs H σ p) (s : Same B B0)
    (h : ∀ i : Nat, (σ2[i]? = σ[i]? ∧ vs2[i]? = vs[i]?) ∨ ((∀ ds, σ[i]? ≠ some (.own ds)) ∧ σ[i]? ≠ some Sl.pot)) : Rep K Z F B0 vs H2 σ p' where
  sub := r.sub
  old := r.old
  pok := r.pok
  potN := r.potN
  noB := r.noB
  noH := r.noH
  len := r0.len
  val := fun i d e => by
    obtain ⟨v, h1, h2⟩ := r0.val i d e
    exact ⟨v, h1, Dq_up s d v h2⟩
  own := fun i ds e => by
    rcases h i with ⟨e1, e2⟩ | ⟨n1, _⟩
    · rw [← e1] at e
      obtain ⟨a, xs, h1, h2⟩ := r.own i ds e
      exact ⟨a, xs, e2 ▸ h1, h2⟩
    · exact absurd e (n1 ds)
  pot := r0.pot
  apart := r0.apart
/-- a slot gets a known value -/
theorem Rep.set {v : V} {d : D} (r : Rep K Z F B vs H σ p) (i : Nat) (h : Dq K B v d) : Rep K Z F B (vs.set i (some v)) H (σ.set i (.val d)) p where
  sub := r.sub
  old := r.old
  pok := r.pok
  potN := r.potN
  noB := r.noB
  noH := r.noH
  len := by rw [List.length_set, List.length_set]; exact r.len
  val := fun j e q => by
    by_cases z : i = j
    · subst z
      have hi : i < σ.length := by
        obtain ⟨hi, _⟩ := List.getElem?_eq_some_iff.mp q
        rwa [List.length_set] at hi
      rw [List.getElem?_set_self hi] at q
      cases q
      exact ⟨v, List.getElem?_set_self (by rw [r.len]; exact hi), h⟩
    · rw [List.getElem?_set_ne z] at q ⊢
      exact r.val j e q
  own := fun j es q => by
    by_cases z : i = j
    · subst z
      have hi : i < σ.length := by
        obtain ⟨hi, _⟩ := List.getElem?_eq_some_iff.mp q
        rwa [List.length_set] at hi
      rw [List.getElem?_set_self hi] at q
      cases q
    · rw [List.getElem?_set_ne z] at q ⊢
      exact r.own j es q
  pot := fun j q => by
    by_cases z : i = j
    · subst z
      have hi : i < σ.length := by
        obtain ⟨hi, _⟩ := List.getElem?_eq_some_iff.mp q
        rwa [List.length_set] at hi
      rw [List.getElem?_set_self hi] at q
      cases q
    · rw [List.getElem?_set_ne z] at q ⊢
      exact r.pot j q
  apart := fun j k a xs ys e1 e2 q1 q2 => by
    have ne : ∀ (j : Nat) (xs : List D), (σ.set i (.val d))[j]? = some (.own xs) → i ≠ j := fun j xs q z => by
      subst z
      have hi : i < σ.length := by
        obtain ⟨hi, _⟩ := List.getElem?_eq_some_iff.mp q
        rwa [List.length_set] at hi
      rw [List.getElem?_set_self hi] at q
      cases q
    have n1 := ne j xs q1
    have n2 := ne k ys q2
    rw [List.getElem?_set_ne n1] at e1 q1
    rw [List.getElem?_set_ne n2] at e2 q2
    exact r.apart j k a xs ys e1 e2 q1 q2
/-- a slot is forgotten -/
theorem Rep.drop (r : Rep K Z F B vs H σ p) (i : Nat) (v : Option V) : Rep K Z F B (vs.set i v) H (σ.set i .un) p where
  sub := r.sub
  old := r.old
  pok := r.pok
  potN := r.potN
  noB := r.noB
  noH := r.noH
  len := by rw [List.length_set, List.length_set]; exact r.len
  val := fun j e q => by
    by_cases z : i = j
    · subst z
      have hi : i < σ.length := by
        obtain ⟨hi, _⟩ := List.getElem?_eq_some_iff.mp q
        rwa [List.length_set] at hi
      rw [List.getElem?_set_self hi] at q
      cases q
    · rw [List.getElem?_set_ne z] at q ⊢
      exact r.val j e q
  own := fun j es q => by
    by_cases z : i = j
    · subst z
      have hi : i < σ.length := by
        obtain ⟨hi, _⟩ := List.getElem?_eq_some_iff.mp q
        rwa [List.length_set] at hi
      rw [List.getElem?_set_self hi] at q
      cases q
    · rw [List.getElem?_set_ne z] at q ⊢
      exact r.own j es q
  pot := fun j q => by
    by_cases z : i = j
    · subst z
      have hi : i < σ.length := by
        obtain ⟨hi, _⟩ := List.getElem?_eq_some_iff.mp q
        rwa [List.length_set] at hi
      rw [List.getElem?_set_self hi] at q
      cases q
    · rw [List.getElem?_set_ne z] at q ⊢
      exact r.pot j q
  apart := fun j k a xs ys e1 e2 q1 q2 => by
    have ne : ∀ (j : Nat) (xs : List D), (σ.set i Sl.un)[j]? = some (.own xs) → i ≠ j := fun j xs q z => by
      subst z
      have hi : i < σ.length := by
        obtain ⟨hi, _⟩ := List.getElem?_eq_some_iff.mp q
        rwa [List.length_set] at hi
      rw [List.getElem?_set_self hi] at q
      cases q
    have n1 := ne j xs q1
    have n2 := ne k ys q2
    rw [List.getElem?_set_ne n1] at e1 q1
    rw [List.getElem?_set_ne n2] at e2 q2
    exact r.apart j k a xs ys e1 e2 q1 q2
/-- a slot gets a list of its own -/
theorem Rep.setL {a : Addr} {xs : List V} {ds : List D} (r : Rep K Z F B vs H σ p) (i : Nat) (h1 : H a = some (.lst xs)) (h2 : DqAll K B xs ds) (h3 : B a = none) (h4 : F.H0 a = none) (h5 : ¬ F.N a)
    (h6 : ∀ (j : Nat) (es : List D), j ≠ i → σ[j]? = some (.own es) → vs[j]? ≠ some (some (.ref a))) : Rep K Z F B (vs.set i (some (.ref a))) H (σ.set i (.own ds)) p where
  sub := r.sub
  old := r.old
  pok := r.pok
  potN := r.potN
  noB := r.noB
  noH := r.noH
  len := by rw [List.length_set, List.length_set]; exact r.len
  val := fun j e q => by
    by_cases z : i = j
    · subst z
      have hi : i < σ.length := by
        obtain ⟨hi, _⟩ := List.getElem?_eq_some_iff.mp q
        rwa [List.length_set] at hi
      rw [List.getElem?_set_self hi] at q
      cases q
    · rw [List.getElem?_set_ne z] at q ⊢
      exact r.val j e q
  own := fun j es q => by
    by_cases z : i = j
    · subst z
      have hi : i < σ.length := by
        obtain ⟨hi, _⟩ := List.getElem?_eq_some_iff.mp q
        rwa [List.length_set] at hi
      rw [List.getElem?_set_self hi] at q
      cases q
      exact ⟨a, xs, List.getElem?_set_self (by rw [r.len]; exact hi), h1, h2, h3, h4, h5⟩
    · rw [List.getElem?_set_ne z] at q ⊢
      exact r.own j es q
  pot := fun j q => by
    by_cases z : i = j
    · subst z
      have hi : i < σ.length := by
        obtain ⟨hi, _⟩ := List.getElem?_eq_some_iff.mp q
        rwa [List.length_set] at hi
      rw [List.getElem?_set_self hi] at q
      cases q
    · rw [List.getElem?_set_ne z] at q ⊢
      exact r.pot j q
  apart := fun j k b xs ys e1 e2 q1 q2 => by
    by_cases z1 : i = j
    · by_cases z2 : i = k
      · exact z1.symm.trans z2
      · exfalso
        subst z1
        have hi : i < σ.length := by
          obtain ⟨hi, _⟩ := List.getElem?_eq_some_iff.mp q1
          rwa [List.length_set] at hi
        rw [List.getElem?_set_self (by rw [r.len]; exact hi)] at e1
        cases e1
        rw [List.getElem?_set_ne z2] at e2 q2
        exact h6 k ys (Ne.symm z2) q2 e2
    · by_cases z2 : i = k
      · exfalso
        subst z2
        have hi : i < σ.length := by
          obtain ⟨hi, _⟩ := List.getElem?_eq_some_iff.mp q2
          rwa [List.length_set] at hi
        rw [List.getElem?_set_self (by rw [r.len]; exact hi)] at e2
        cases e2
        rw [List.getElem?_set_ne z1] at e1 q1
        exact h6 j xs (Ne.symm z1) q1 e1
      · rw [List.getElem?_set_ne z1] at e1 q1
        rw [List.getElem?_set_ne z2] at e2 q2
        exact r.apart j k b xs ys e1 e2 q1 q2
/-- the list of a slot is written -/
theorem Rep.write {a : Addr} {ys : List V} {ds es : List D} {i : Nat} (r : Rep K Z F B vs H σ p) (hi : σ[i]? = some (.own ds)) (ha : vs[i]? = some (some (.ref a))) (hy : DqAll K B ys es) :
    Rep K Z F B vs (upd H a (.lst ys)) (σ.set i (.own es)) p := by
  obtain ⟨b, zs, h1, h2, h3, h4, h5, h6⟩ := r.own i ds hi
  have eb : b = a := by
    rw [ha] at h1; cases h1; rfl
  subst eb
  have r1 : Rep K Z F B vs (upd H b (.lst ys)) (σ.set i .un) p := {
    sub := fun c o e => by rw [upd_ne (ne_of_none e h4)]; exact r.sub c o e
    old := fun c o n e => by rw [upd_ne (ne_of_none e h5)]; exact r.old c o n e
    pok := Z.loc F.pa F.g H _ p (fun c hc => upd_ne fun z => h6 (z ▸ r.potN c hc)) r.pok
    potN := r.potN
    noB := r.noB
    noH := fun c hc => by rw [upd_ne (show c ≠ b from fun z => h6 (by rw [← z]; exact hc))]; exact r.noH c hc
    len := by rw [List.length_set]; exact r.len
    val := fun j e q => by
      by_cases z : i = j
      · subst z
        have hj : i < σ.length := by
          obtain ⟨hj, _⟩ := List.getElem?_eq_some_iff.mp hi
          exact hj
        rw [List.getElem?_set_self hj] at q
        cases q
      · rw [List.getElem?_set_ne z] at q
        exact r.val j e q
    own := fun j e q => by
      by_cases z : i = j
      · subst z
        have hj : i < σ.length := by
          obtain ⟨hj, _⟩ := List.getElem?_eq_some_iff.mp hi
          exact hj
        rw [List.getElem?_set_self hj] at q
        cases q
      · rw [List.getElem?_set_ne z] at q
        obtain ⟨c, ws, g1, g2, g3⟩ := r.own j e q
        refine ⟨c, ws, g1, ?_, g3⟩
        rw [upd_ne (show c ≠ b from fun w => z (r.apart i j b ds e ha (by rw [← w]; exact g1) hi q))]
        exact g2
    pot := fun j q => by
      by_cases z : i = j
      · subst z
        have hj : i < σ.length := by
          obtain ⟨hj, _⟩ := List.getElem?_eq_some_iff.mp hi
          exact hj
        rw [List.getElem?_set_self hj] at q
        cases q
      · rw [List.getElem?_set_ne z] at q
        exact r.pot j q
    apart := fun j k c xs ys e1 e2 q1 q2 => by
      have ne : ∀ (j : Nat) (xs : List D), (σ.set i Sl.un)[j]? = some (.own xs) → i ≠ j := fun j xs q z => by
        subst z
        have hj : i < σ.length := by
          obtain ⟨hj, _⟩ := List.getElem?_eq_some_iff.mp hi
          exact hj
        rw [List.getElem?_set_self hj] at q
        cases q
      have n1 := ne j xs q1
      have n2 := ne k ys q2
      rw [List.getElem?_set_ne n1] at q1
      rw [List.getElem?_set_ne n2] at q2
      exact r.apart j k c xs ys e1 e2 q1 q2 }
  have hl : i < vs.length := (List.getElem?_eq_some_iff.mp ha).1
  have e0 : vs.set i (some (.ref b)) = vs := by
    apply List.ext_getElem?
    intro j
    by_cases z : i = j
    · subst z; rw [List.getElem?_set_self hl]; exact ha.symm
    · rw [List.getElem?_set_ne z]
  have r2 := r1.setL (a := b) (xs := ys) (ds := es) i upd_same hy h4 h5 h6 (fun j e n q w => by
    rw [List.getElem?_set_ne (Ne.symm n)] at q
    exact n (r.apart j i b e ds w ha q hi))
  rw [e0, List.set_set] at r2
  exact r2
/-- the list of a slot becomes known -/
theorem Rep.freeze {ds : List D} {i : Nat} (r : Rep K Z F B vs H σ p) (hi : σ[i]? = some (.own ds)) :
    ∃ B1, Same B B1 ∧ Rep K Z F B1 vs H (σ.set i (.val (.list ds))) p := by
  obtain ⟨a, xs, h1, h2, h3, h4, h5, h6⟩ := r.own i ds hi
  have s1 : Same B (upd B a (.lst xs)) := Same.put h4
  have hd : Dq K (upd B a (.lst xs)) (.ref a) (.list ds) := .lst upd_same (DqA_up s1 ds xs h3)
  refine ⟨upd B a (.lst xs), s1, ?_⟩
  have r1 : Rep K Z F (upd B a (.lst xs)) vs H (σ.set i .un) p := {
    sub := fun c o e => by
      by_cases z : c = a
      · subst z; rw [upd_same] at e; rw [← e]; exact h2
      · rw [upd_ne z] at e; exact r.sub c o e
    old := r.old
    pok := r.pok
    potN := r.potN
    noB := fun c hc => by rw [upd_ne (show c ≠ a from fun z => h6 (by rw [← z]; exact hc))]; exact r.noB c hc
    noH := r.noH
    len := by rw [List.length_set]; exact r.len
    val := fun j e q => by
      by_cases z : i = j
      · subst z
        rw [List.getElem?_set_self (List.getElem?_eq_some_iff.mp hi).1] at q
        cases q
      · rw [List.getElem?_set_ne z] at q
        obtain ⟨v, g1, g2⟩ := r.val j e q
        exact ⟨v, g1, Dq_up s1 e v g2⟩
    own := fun j e q => by
      by_cases z : i = j
      · subst z
        rw [List.getElem?_set_self (List.getElem?_eq_some_iff.mp hi).1] at q
        cases q
      · rw [List.getElem?_set_ne z] at q
        obtain ⟨c, ws, g1, g2, g3, g4, g5⟩ := r.own j e q
        refine ⟨c, ws, g1, g2, DqA_up s1 e ws g3, ?_, g5⟩
        rw [upd_ne (show c ≠ a from fun w => z (r.apart i j a ds e h1 (by rw [← w]; exact g1) hi q))]
        exact g4
    pot := fun j q => by
      by_cases z : i = j
      · subst z
        rw [List.getElem?_set_self (List.getElem?_eq_some_iff.mp hi).1] at q
        cases q
      · rw [List.getElem?_set_ne z] at q
        exact r.pot j q
    apart := fun j k c xs ys e1 e2 q1 q2 => by
      have ne : ∀ (j : Nat) (xs : List D), (σ.set i Sl.un)[j]? = some (.own xs) → i ≠ j := fun j xs q z => by
        subst z
        rw [List.getElem?_set_self (List.getElem?_eq_some_iff.mp hi).1] at q
        cases q
      have n1 := ne j xs q1
      have n2 := ne k ys q2
      rw [List.getElem?_set_ne n1] at q1
      rw [List.getElem?_set_ne n2] at q2
      exact r.apart j k c xs ys e1 e2 q1 q2 }
  have hl : i < vs.length := (List.getElem?_eq_some_iff.mp h1).1
  have e0 : vs.set i (some (.ref a)) = vs := by
    apply List.ext_getElem?
    intro j
    by_cases z : i = j
    · subst z; rw [List.getElem?_set_self hl]; exact h1.symm
    · rw [List.getElem?_set_ne z]
  have r2 := r1.set i hd
  rw [e0, List.set_set] at r2
  exact r2
end
end FL

namespace FL
open PySem PySem.Spec PyProof.Rows L2

/-! ### what a reading gives -/
abbrev SE (π : Type) := Sg → π → Option (D × π)
abbrev SL (π : Type) := Sg → π → Option (List D × π)
abbrev SB (π : Type) := Sg → π → Option (Bool × π)

def SemE {π : Type} (K : PySem.W.Frag) (Z : PotK π) (te : TE) (φ : SE π) : Prop :=
  ∀ (F : Fx) (B : Hp) (vs : L2.St) (H : Hp) (σ : Sg) (p : π) (d : D) (p' : π) (Q : VK),
    Rep K Z F B vs H σ p → φ σ p = some (d, p') →
    (∀ v H' B', Same B B' → Rep K Z F B' vs H' σ p' → Dq K B' v d → Q v H') → te vs H Q
/-- what is said of a list made anew -/
structure NewL {π : Type} (K : PySem.W.Frag) (Z : PotK π) (F : Fx) (B : Hp) (vs : L2.St) (H : Hp) (σ : Sg) (p : π) (a : Addr) (ds : List D) : Prop where
  rep : Rep K Z F B vs H σ p
  is : ∃ xs, H a = some (.lst xs) ∧ DqAll K B xs ds
  nB : B a = none
  n0 : F.H0 a = none
  nN : ¬ F.N a
  nS : ∀ (i : Nat) (es : List D), σ[i]? = some (.own es) → vs[i]? ≠ some (some (.ref a))
def SemL {π : Type} (K : PySem.W.Frag) (Z : PotK π) (te : TE) (φ : SL π) : Prop :=
  ∀ (F : Fx) (B : Hp) (vs : L2.St) (H : Hp) (σ : Sg) (p : π) (ds : List D) (p' : π) (Q : VK),
    Rep K Z F B vs H σ p → φ σ p = some (ds, p') →
    (∀ a H' B', Same B B' → NewL K Z F B' vs H' σ p' a ds → Q (.ref a) H') → te vs H Q
def SemA {π : Type} (K : PySem.W.Frag) (Z : PotK π) (ta : TA) (φ : SL π) : Prop :=
  ∀ (F : Fx) (B : Hp) (vs : L2.St) (H : Hp) (σ : Sg) (p : π) (ds : List D) (p' : π) (Q : List V → Hp → Prop),
    Rep K Z F B vs H σ p → φ σ p = some (ds, p') →
    (∀ xs H' B', Same B B' → Rep K Z F B' vs H' σ p' → DqAll K B' xs ds → Q xs H') → ta vs H Q
def SemT {π : Type} (K : PySem.W.Frag) (Z : PotK π) (tt : TT) (φ : SB π) : Prop :=
  ∀ (F : Fx) (B : Hp) (vs : L2.St) (H : Hp) (σ : Sg) (p : π) (b : Bool) (p' : π) (Q : Bool → Hp → Prop),
    Rep K Z F B vs H σ p → φ σ p = some (b, p') →
    (∀ H' B', Same B B' → Rep K Z F B' vs H' σ p' → Q b H') → tt vs H Q

/-- what stays through a law's walk -/
structure Sta where
  prog : Program
  w : World
  K : PySem.W.Frag
  mg : Str → Option Value
  base : Heap
  A : Around
/-- the contexts of a def's body and of its comprehensions -/
def Fam (S : Sta) (N : List Str) (sc : Scope) (X : Cx) : Prop := N.Nodup ∧ ∃ (s0 : Shared) (H0 : Hp) (env : Env) (outer stack : List Env) (ex : List Addr) (fn : Str → Bool) (pn : List (Addr × Obj)), env.scope = sc ∧
  X = ⟨S.prog, S.w, S.K, S.mg, S.base, S.A, N, s0, H0, env, outer, stack, ex, fn, true, pn, fun _ _ => False⟩
/-- .. of the body itself -/
def Fam1 (S : Sta) (N : List Str) (sc : Scope) (X : Cx) : Prop := Fam S N sc X ∧ ∀ x, X.fn x = true

structure FE {π : Type} (S : Sta) (N : List Str) (sc : Scope) (Z : PotK π) (e : Expr) (φ : SE π) : Prop where
  ex : ∃ te, (∀ X, Fam S N sc X → PE X e te) ∧ SemE S.K Z te φ
structure FL {π : Type} (S : Sta) (N : List Str) (sc : Scope) (Z : PotK π) (e : Expr) (φ : SL π) : Prop where
  ex : ∃ te, (∀ X, Fam S N sc X → PE X e te) ∧ SemL S.K Z te φ
structure FA {π : Type} (S : Sta) (N : List Str) (sc : Scope) (Z : PotK π) (es : List Expr) (φ : SL π) : Prop where
  ex : ∃ ta, (∀ X, Fam S N sc X → PA X es ta) ∧ SemA S.K Z ta φ
structure FT {π : Type} (S : Sta) (N : List Str) (sc : Scope) (Z : PotK π) (e : Expr) (φ : SB π) : Prop where
  ex : ∃ tt, (∀ X, Fam S N sc X → PT X e tt) ∧ SemT S.K Z tt φ
structure FW {π : Type} (S : Sta) (N : List Str) (sc : Scope) (Z : PotK π) (e : Expr) (φ : SB π) : Prop where
  ex : ∃ tt, (∀ X, Fam S N sc X → PW X e tt) ∧ SemT S.K Z tt φ

section
variable {π : Type} {Z : PotK π} {S : Sta} {N : List Str} {sc : Scope} {e a b : Expr} {es : List Expr} {pos : Pos}

theorem bnd {α β : Type} {x : Option α} {f : α → Option β} {y : β} (h : x.bind f = some y) : ∃ a, x = some a ∧ f a = some y := by
  cases x with
  | none => cases h
  | some a => exact ⟨a, rfl, h⟩
theorem mpd {α β : Type} {x : Option α} {f : α → β} {y : β} (h : x.map f = some y) : ∃ a, x = some a ∧ f a = y := by
  cases x with
  | none => cases h
  | some a => exact ⟨a, rfl, Option.some.inj h⟩

/-! ### lists of one's own become known -/
theorem NewL.known {K : PySem.W.Frag} {F : Fx} {B : Hp} {vs : L2.St} {H : Hp} {σ : Sg} {p : π} {a : Addr} {ds : List D} (n : NewL K Z F B vs H σ p a ds) :
    ∃ B1, Same B B1 ∧ Rep K Z F B1 vs H σ p ∧ Dq K B1 (.ref a) (.list ds) := by
  obtain ⟨xs, h1, h2⟩ := n.is
  have s1 : Same B (upd B a (.lst xs)) := Same.put n.nB
  have r := n.rep
  refine ⟨_, s1, ⟨fun b o e => ?_, r.old, r.pok, r.potN, fun b hb => ?_, r.noH, r.len, fun i d e => ?_, fun i es e => ?_, r.pot, r.apart⟩, .lst upd_same (DqA_up s1 ds xs h2)⟩
  · by_cases z : b = a
    · subst z; rw [upd_same] at e; rw [← e]; exact h1
    · rw [upd_ne z] at e; exact r.sub b o e
  · rw [upd_ne (show b ≠ a from fun z => n.nN (by rw [← z]; exact hb))]; exact r.noB b hb
  · obtain ⟨v, g1, g2⟩ := r.val i d e
    exact ⟨v, g1, Dq_up s1 d v g2⟩
  · obtain ⟨b, ys, g1, g2, g3, g4, g5, g6⟩ := r.own i es e
    refine ⟨b, ys, g1, g2, DqA_up s1 es ys g3, ?_, g5, g6⟩
    rw [upd_ne (show b ≠ a from fun z => n.nS i es e (by rw [← z]; exact g1))]; exact g4
def xLst (φ : SL π) : SE π := fun σ p => (φ σ p).map fun x => (.list x.1, x.2)
theorem fe_L {φ : SL π} (h : FL S N sc Z e φ) : FE S N sc Z e (xLst φ) := by
  obtain ⟨te, h1, h2⟩ := h.ex
  refine ⟨te, h1, fun F B vs H σ p d p' Q r e k => ?_⟩
  obtain ⟨⟨ds, p1⟩, e1, e2⟩ := mpd e
  cases e2
  refine h2 F B vs H σ p ds p1 Q r e1 fun a H' B' s n => ?_
  obtain ⟨B1, s1, r1, d1⟩ := n.known
  exact k _ H' B1 (s.trans s1) r1 d1

/-! ### names, constants -/
def xVar (i : Nat) : SE π := fun σ p => match σ[i]? with
  | some (.val d) => some (d, p)
  | _ => none
def xC (d : D) : SE π := fun _ p => some (d, p)
theorem sem_var {K : PySem.W.Frag} {i : Nat} : SemE K Z (tVar i) (xVar i) := fun F B vs H σ p d p' Q r e k => by
  unfold xVar at e
  split at e
  · rename_i d' q
    cases e
    obtain ⟨v, h1, h2⟩ := r.val i d q
    exact ⟨v, h1, k v H B (Same.refl B) r h2⟩
  · cases e
theorem sem_c {K : PySem.W.Frag} {v : V} {d : D} (h : ∀ B, Dq K B v d) : SemE K Z (tC v) (xC d) := fun F B vs H σ p d' p' Q r e k => by
  cases e
  exact k v H B (Same.refl B) r (h B)
theorem fe_var (i : Nat) {x : Str} (hN : N[i]? = some x := by rfl)
    (hv : Vis sc x := by first | exact Or.inl rfl | exact Or.inr (Or.inl rfl) | exact Or.inr (Or.inr rfl))
    (hd : (x == ("__debug__" : Str)) = false := by decide) (hcd : (x == ("__classdict__" : Str)) = false := by decide) : FE S N sc Z (.Name x pos) (xVar i) :=
  ⟨_, fun X ⟨_, s0, H0, env, outer, stack, ex, fn, pn, hs, hX⟩ => by
    subst hX
    exact pe_var (i := i) hN (by show Vis env.scope x; rw [hs]; exact hv) hd hcd, sem_var⟩
theorem fe_int {i : Int} {j} : FE S N sc Z (.Constant (.int i) j pos) (xC (.int i)) := ⟨_, fun _ _ => pe_int, sem_c fun _ => .int i⟩
theorem fe_bl {c : Bool} {j} : FE S N sc Z (.Constant (.bool c) j pos) (xC (.bool c)) := ⟨_, fun _ _ => pe_bl, sem_c fun _ => .bl c⟩
theorem fe_non {j} : FE S N sc Z (.Constant .none j pos) (xC .none) := ⟨_, fun _ _ => pe_non, sem_c fun _ => .non⟩
theorem fe_str {x : Str} {j} : FE S N sc Z (.Constant (.str x) j pos) (xC (.str x)) := ⟨_, fun _ _ => pe_str, sem_c fun _ => .str x⟩

/-! ### operations by values -/
/-- two values, by what they are -/
def Val2 (K : PySem.W.Frag) (r : R2) (f : D → D → Option D) : Prop :=
  ∀ (B H : Hp) (x y : V) (d e z : D) (Q : VK), Same B H → Dq K B x d → Dq K B y e → f d e = some z →
    (∀ v H' B', Gr B H B' H' → Dq K B' v z → Q v H') → r x y H Q
def Val1 (K : PySem.W.Frag) (r : V → Hp → VK → Prop) (f : D → Option D) : Prop :=
  ∀ (B H : Hp) (x : V) (d z : D) (Q : VK), Same B H → Dq K B x d → f d = some z →
    (∀ v H' B', Gr B H B' H' → Dq K B' v z → Q v H') → r x H Q
def ValN (K : PySem.W.Frag) (r : List V → Hp → VK → Prop) (f : List D → Option D) : Prop :=
  ∀ (B H : Hp) (xs : List V) (ds : List D) (z : D) (Q : VK), Same B H → DqAll K B xs ds → f ds = some z →
    (∀ v H' B', Gr B H B' H' → Dq K B' v z → Q v H') → r xs H Q
/-- a new list comes -/
def ValNL (K : PySem.W.Frag) (r : List V → Hp → VK → Prop) (f : List D → Option (List D)) : Prop :=
  ∀ (B H : Hp) (xs : List V) (ds : List D) (z : List D) (Q : VK), Same B H → DqAll K B xs ds → f ds = some z →
    (∀ a ys H' B', Gr B H B' H' → H a = none → B' a = none → H' a = some (.lst ys) → DqAll K B' ys z → Q (.ref a) H') → r xs H Q
def Val2L (K : PySem.W.Frag) (r : R2) (f : D → D → Option (List D)) : Prop :=
  ∀ (B H : Hp) (x y : V) (d e : D) (z : List D) (Q : VK), Same B H → Dq K B x d → Dq K B y e → f d e = some z →
    (∀ a ys H' B', Gr B H B' H' → H a = none → B' a = none → H' a = some (.lst ys) → DqAll K B' ys z → Q (.ref a) H') → r x y H Q

/-- one of two rules -/
theorem OpR.or2 {X : Cx} {f : Value → Value → Sem Value} {r q : R2} (h1 : OpR X f r) (h2 : OpR X f q) : OpR X f (fun x y H Q => r x y H Q ∨ q x y H Q) := by
  intro pins s σ H x y v u Q I rx ry h
  rcases h with h | h
  · exact h1 pins s σ H x y v u Q I rx ry h
  · exact h2 pins s σ H x y v u Q I rx ry h
theorem Val2.or2 {K : PySem.W.Frag} {r q : R2} {f g : D → D → Option D} (h1 : Val2 K r f) (h2 : Val2 K q g) : Val2 K (fun x y H Q => r x y H Q ∨ q x y H Q) (fun d e => (f d e).or (g d e)) := by
  intro B H x y d e z Q s hx hy hz k
  have hz : (f d e).or (g d e) = some z := hz
  cases c : f d e with
  | some w =>
    rw [c, Option.some_or] at hz
    cases hz
    exact .inl (h1 B H x y d e _ Q s hx hy c k)
  | none =>
    rw [c, Option.none_or] at hz
    exact .inr (h2 B H x y d e z Q s hx hy hz k)
theorem CallR.or2 {X : Cx} {f : Value} {r q : List V → Hp → VK → Prop} (h1 : CallR X f r) (h2 : CallR X f q) : CallR X f (fun xs H Q => r xs H Q ∨ q xs H Q) := by
  intro pins s σ H xs us Q I rx h
  rcases h with h | h
  · exact h1 pins s σ H xs us Q I rx h
  · exact h2 pins s σ H xs us Q I rx h
theorem ValN.or2 {K : PySem.W.Frag} {r q : List V → Hp → VK → Prop} {f g : List D → Option D} (h1 : ValN K r f) (h2 : ValN K q g) : ValN K (fun xs H Q => r xs H Q ∨ q xs H Q) (fun ds => (f ds).or (g ds)) := by
  intro B H xs ds z Q s hx hz k
  have hz : (f ds).or (g ds) = some z := hz
  cases c : f ds with
  | some w =>
    rw [c, Option.some_or] at hz
    cases hz
    exact .inl (h1 B H xs ds _ Q s hx c k)
  | none =>
    rw [c, Option.none_or] at hz
    exact .inr (h2 B H xs ds z Q s hx hz k)

def xBin (f : D → D → Option D) (φ ψ : SE π) : SE π := fun σ p => (φ σ p).bind fun x => (ψ σ x.2).bind fun y => (f x.1 y.1).map fun z => (z, y.2)
def xUn (f : D → Option D) (φ : SE π) : SE π := fun σ p => (φ σ p).bind fun x => (f x.1).map fun z => (z, x.2)
theorem sem_bin {K : PySem.W.Frag} {ta tb : TE} {r : R2} {f : D → D → Option D} {φ ψ : SE π} (h : Val2 K r f) (ha : SemE K Z ta φ) (hb : SemE K Z tb ψ) : SemE K Z (tOp r ta tb) (xBin f φ ψ) := by
  intro F B vs H σ p d p' Q rp e k
  obtain ⟨⟨x, p1⟩, e1, e⟩ := bnd e
  obtain ⟨⟨y, p2⟩, e2, e⟩ := bnd e
  obtain ⟨z, e3, e4⟩ := mpd e
  cases e4
  refine ha F B vs H σ p x p1 _ rp e1 fun v H1 B1 s1 r1 d1 => ?_
  refine hb F B1 vs H1 σ p1 y p2 _ r1 e2 fun u H2 B2 s2 r2 d2 => ?_
  exact h B2 H2 v u x y _ Q r2.sub (Dq_up s2 x v d1) d2 e3 fun w H3 B3 gr dw => k w H3 B3 ((s1.trans s2).trans gr.b) (r2.grow gr) dw
theorem sem_un {K : PySem.W.Frag} {ta : TE} {r : V → Hp → VK → Prop} {f : D → Option D} {φ : SE π} (h : Val1 K r f) (ha : SemE K Z ta φ) : SemE K Z (tUn r ta) (xUn f φ) := by
  intro F B vs H σ p d p' Q rp e k
  obtain ⟨⟨x, p1⟩, e1, e⟩ := bnd e
  obtain ⟨z, e3, e4⟩ := mpd e
  cases e4
  refine ha F B vs H σ p x p1 _ rp e1 fun v H1 B1 s1 r1 d1 => ?_
  exact h B1 H1 v x _ Q r1.sub d1 e3 fun w H3 B3 gr dw => k w H3 B3 (s1.trans gr.b) (r1.grow gr) dw
theorem fe_op {op : Operator} {r : R2} {f : D → D → Option D} {φ ψ : SE π} (ho : ∀ X, Fam S N sc X → OpR X (binaryOp op) r) (hv : Val2 S.K r f) (ha : FE S N sc Z a φ) (hb : FE S N sc Z b ψ) : FE S N sc Z (.BinOp a op b pos) (xBin f φ ψ) := by
  obtain ⟨ta, a1, a2⟩ := ha.ex
  obtain ⟨tb, b1, b2⟩ := hb.ex
  exact ⟨_, fun X hX => pe_op (ho X hX) (a1 X hX) (b1 X hX), sem_bin hv a2 b2⟩
theorem fe_cmp {op : CmpOp} {r : R2} {f : D → D → Option D} {φ ψ : SE π} (ho : ∀ X, Fam S N sc X → OpR X (compareOp op) r) (hv : Val2 S.K r f) (ha : FE S N sc Z a φ) (hb : FE S N sc Z b ψ) (hm : behindInMarks op b = false) : FE S N sc Z (.Compare a [op] [b] pos) (xBin f φ ψ) := by
  obtain ⟨ta, a1, a2⟩ := ha.ex
  obtain ⟨tb, b1, b2⟩ := hb.ex
  exact ⟨_, fun X hX => pe_cmpR (ho X hX) (a1 X hX) (b1 X hX) hm, sem_bin hv a2 b2⟩
theorem fe_un {op : UnaryOp} {r : V → Hp → VK → Prop} {f : D → Option D} {φ : SE π} (ho : ∀ X, Fam S N sc X → UnR X (unaryOp op) r) (hv : Val1 S.K r f) (ha : FE S N sc Z a φ) : FE S N sc Z (.UnaryOp op a pos) (xUn f φ) := by
  obtain ⟨ta, a1, a2⟩ := ha.ex
  exact ⟨_, fun X hX => pe_un (ho X hX) (a1 X hX), sem_un hv a2⟩

/-! ### tests -/
def xTest (φ : SE π) : SB π := fun σ p => (φ σ p).bind fun x => match x.1 with
  | .bool c => some (c, x.2)
  | _ => none
theorem sem_test {K : PySem.W.Frag} {te : TE} {φ : SE π} (h : SemE K Z te φ) : SemT K Z (tB te) (xTest φ) := by
  intro F B vs H σ p c p' Q r e k
  obtain ⟨⟨x, p1⟩, e1, e⟩ := bnd e
  cases x with
  | bool c' =>
    cases e
    refine h F B vs H σ p _ p1 _ r e1 fun v H' B' s r' d => ?_
    cases d
    exact ⟨_, rfl, k H' B' s r'⟩
  | none => cases e
  | int _ => cases e
  | str _ => cases e
  | list _ => cases e
  | tuple _ => cases e
  | dict _ => cases e
theorem ft_val {φ : SE π} (h : FE S N sc Z e φ) (he : ∀ (X : Cx) whole, isTrue e X.env whole = (do let v ← whole; standAt e.pos; holding [v] (truthy v)) := by intro _ _; rfl) : FT S N sc Z e (xTest φ) := by
  obtain ⟨te, h1, h2⟩ := h.ex
  exact ⟨_, fun X hX => pt_val (h1 X hX) (he X), sem_test h2⟩
theorem ft_cmp {op : CmpOp} {r : R2} {f : D → D → Option D} {φ ψ : SE π} (ho : ∀ X, Fam S N sc X → OpR X (compareOp op) r) (hv : Val2 S.K r f) (ha : FE S N sc Z a φ) (hb : FE S N sc Z b ψ) (hm : behindInMarks op b = false) : FT S N sc Z (.Compare a [op] [b] pos) (xTest (xBin f φ ψ)) := by
  obtain ⟨ta, a1, a2⟩ := ha.ex
  obtain ⟨tb, b1, b2⟩ := hb.ex
  exact ⟨_, fun X hX => pt_cmpR (ho X hX) (a1 X hX) (b1 X hX) hm, sem_test (sem_bin hv a2 b2)⟩
def xAnd (φ ψ : SB π) : SB π := fun σ p => (φ σ p).bind fun x => if x.1 = true then ψ σ x.2 else some (false, x.2)
def xOr (φ ψ : SB π) : SB π := fun σ p => (φ σ p).bind fun x => if x.1 = true then some (true, x.2) else ψ σ x.2
def xNot (φ : SB π) : SB π := fun σ p => (φ σ p).map fun x => (!x.1, x.2)
variable {φ ψ : SB π} {rest : List Expr}
theorem fw_and1 (h : FT S N sc Z a φ) : FW S N sc Z (.BoolOp .And [a] pos) φ := by
  obtain ⟨t, h1, h2⟩ := h.ex
  exact ⟨t, fun X hX => pw_and1 (h1 X hX), h2⟩
theorem fw_or1 (h : FT S N sc Z a φ) : FW S N sc Z (.BoolOp .Or [a] pos) φ := by
  obtain ⟨t, h1, h2⟩ := h.ex
  exact ⟨t, fun X hX => pw_or1 (h1 X hX), h2⟩
theorem fw_and (ha : FT S N sc Z a φ) (hb : FW S N sc Z (.BoolOp .And (b :: rest) pos) ψ) : FW S N sc Z (.BoolOp .And (a :: b :: rest) pos) (xAnd φ ψ) := by
  obtain ⟨t, a1, a2⟩ := ha.ex
  obtain ⟨u, b1, b2⟩ := hb.ex
  refine ⟨_, fun X hX => pw_and (a1 X hX) (b1 X hX), fun F B vs H σ p c p' Q r e k => ?_⟩
  obtain ⟨⟨x, p1⟩, e1, e⟩ := bnd e
  refine a2 F B vs H σ p x p1 _ r e1 fun H1 B1 s1 r1 => ?_
  cases x with
  | true => exact b2 F B1 vs H1 σ p1 c p' Q r1 e fun H2 B2 s2 r2 => k H2 B2 (s1.trans s2) r2
  | false =>
    cases e
    exact k H1 B1 s1 r1
theorem fw_or (ha : FT S N sc Z a φ) (hb : FW S N sc Z (.BoolOp .Or (b :: rest) pos) ψ) : FW S N sc Z (.BoolOp .Or (a :: b :: rest) pos) (xOr φ ψ) := by
  obtain ⟨t, a1, a2⟩ := ha.ex
  obtain ⟨u, b1, b2⟩ := hb.ex
  refine ⟨_, fun X hX => pw_or (a1 X hX) (b1 X hX), fun F B vs H σ p c p' Q r e k => ?_⟩
  obtain ⟨⟨x, p1⟩, e1, e⟩ := bnd e
  refine a2 F B vs H σ p x p1 _ r e1 fun H1 B1 s1 r1 => ?_
  cases x with
  | true =>
    cases e
    exact k H1 B1 s1 r1
  | false => exact b2 F B1 vs H1 σ p1 c p' Q r1 e fun H2 B2 s2 r2 => k H2 B2 (s1.trans s2) r2
theorem FW.t (h : FW S N sc Z e φ) : FT S N sc Z e φ := by
  obtain ⟨t, h1, h2⟩ := h.ex
  exact ⟨t, fun X hX => (h1 X hX).pt, h2⟩
theorem ft_not (h : FT S N sc Z a φ) : FT S N sc Z (.UnaryOp .Not a pos) (xNot φ) := by
  obtain ⟨t, h1, h2⟩ := h.ex
  refine ⟨_, fun X hX => pt_not (h1 X hX), fun F B vs H σ p c p' Q r e k => ?_⟩
  obtain ⟨⟨x, p1⟩, e1, e2⟩ := mpd e
  cases e2
  exact h2 F B vs H σ p x p1 _ r e1 fun H1 B1 s1 r1 => k H1 B1 s1 r1
/-- .. as values, all but the last bools -/
def xAndV (φ ψ : SE π) : SE π := fun σ p => (φ σ p).bind fun x => match x.1 with
  | .bool true => ψ σ x.2
  | .bool false => some (.bool false, x.2)
  | _ => none
def xOrV (φ ψ : SE π) : SE π := fun σ p => (φ σ p).bind fun x => match x.1 with
  | .bool true => some (.bool true, x.2)
  | .bool false => ψ σ x.2
  | _ => none
def xNotV (φ : SE π) : SE π := fun σ p => (φ σ p).bind fun x => match x.1 with
  | .bool c => some (.bool (!c), x.2)
  | _ => none
variable {α β : SE π}
theorem fe_one {op} (h : FE S N sc Z a α) : FE S N sc Z (.BoolOp op [a] pos) α := by
  obtain ⟨t, h1, h2⟩ := h.ex
  exact ⟨t, fun X hX => pe_one (h1 X hX), h2⟩
theorem fe_and (ha : FE S N sc Z a α) (hb : FE S N sc Z (.BoolOp .And (b :: rest) pos) β) : FE S N sc Z (.BoolOp .And (a :: b :: rest) pos) (xAndV α β) := by
  obtain ⟨t, a1, a2⟩ := ha.ex
  obtain ⟨u, b1, b2⟩ := hb.ex
  refine ⟨_, fun X hX => pe_and (a1 X hX) (b1 X hX), fun F B vs H σ p d p' Q r e k => ?_⟩
  obtain ⟨⟨x, p1⟩, e1, e⟩ := bnd e
  refine a2 F B vs H σ p x p1 _ r e1 fun v H1 B1 s1 r1 d1 => ?_
  cases d1 with
  | bl c =>
    refine ⟨c, rfl, ?_⟩
    cases c with
    | true => exact b2 F B1 vs H1 σ p1 d p' Q r1 e fun w H2 B2 s2 r2 dw => k w H2 B2 (s1.trans s2) r2 dw
    | false =>
      cases e
      exact k _ H1 B1 s1 r1 (.bl false)
  | _ => cases e
theorem fe_or (ha : FE S N sc Z a α) (hb : FE S N sc Z (.BoolOp .Or (b :: rest) pos) β) : FE S N sc Z (.BoolOp .Or (a :: b :: rest) pos) (xOrV α β) := by
  obtain ⟨t, a1, a2⟩ := ha.ex
  obtain ⟨u, b1, b2⟩ := hb.ex
  refine ⟨_, fun X hX => pe_or (a1 X hX) (b1 X hX), fun F B vs H σ p d p' Q r e k => ?_⟩
  obtain ⟨⟨x, p1⟩, e1, e⟩ := bnd e
  refine a2 F B vs H σ p x p1 _ r e1 fun v H1 B1 s1 r1 d1 => ?_
  cases d1 with
  | bl c =>
    refine ⟨c, rfl, ?_⟩
    cases c with
    | true =>
      cases e
      exact k _ H1 B1 s1 r1 (.bl true)
    | false => exact b2 F B1 vs H1 σ p1 d p' Q r1 e fun w H2 B2 s2 r2 dw => k w H2 B2 (s1.trans s2) r2 dw
  | _ => cases e
theorem fe_not (ha : FE S N sc Z a α) : FE S N sc Z (.UnaryOp .Not a pos) (xNotV α) := by
  obtain ⟨t, a1, a2⟩ := ha.ex
  refine ⟨_, fun X hX => pe_not (a1 X hX), fun F B vs H σ p d p' Q r e k => ?_⟩
  obtain ⟨⟨x, p1⟩, e1, e⟩ := bnd e
  refine a2 F B vs H σ p x p1 _ r e1 fun v H1 B1 s1 r1 d1 => ?_
  cases d1 with
  | bl c =>
    cases e
    exact ⟨c, rfl, k _ H1 B1 s1 r1 (.bl _)⟩
  | _ => cases e
def xIf (χ : SB π) (α β : SE π) : SE π := fun σ p => (χ σ p).bind fun x => if x.1 = true then α σ x.2 else β σ x.2
def xIfL (χ : SB π) (α β : SL π) : SL π := fun σ p => (χ σ p).bind fun x => if x.1 = true then α σ x.2 else β σ x.2
theorem fe_if {c : Expr} (hc : FT S N sc Z c φ) (ha : FE S N sc Z a α) (hb : FE S N sc Z b β) : FE S N sc Z (.IfExp c a b pos) (xIf φ α β) := by
  obtain ⟨t, c1, c2⟩ := hc.ex
  obtain ⟨u, a1, a2⟩ := ha.ex
  obtain ⟨w, b1, b2⟩ := hb.ex
  refine ⟨_, fun X hX => pe_ifExp (c1 X hX) (a1 X hX) (b1 X hX), fun F B vs H σ p d p' Q r e k => ?_⟩
  obtain ⟨⟨x, p1⟩, e1, e⟩ := bnd e
  refine c2 F B vs H σ p x p1 _ r e1 fun H1 B1 s1 r1 => ?_
  cases x with
  | true => exact a2 F B1 vs H1 σ p1 d p' Q r1 e fun w H2 B2 s2 r2 dw => k w H2 B2 (s1.trans s2) r2 dw
  | false => exact b2 F B1 vs H1 σ p1 d p' Q r1 e fun w H2 B2 s2 r2 dw => k w H2 B2 (s1.trans s2) r2 dw
/-- two comparisons, the middle one asked once -/
def xChain (f g : D → D → Option D) (α β γ : SE π) : SE π := fun σ p => (α σ p).bind fun x => (β σ x.2).bind fun y => (f x.1 y.1).bind fun c => match c with
  | .bool true => (γ σ y.2).bind fun z => (g y.1 z.1).map fun w => (w, z.2)
  | .bool false => some (.bool false, y.2)
  | _ => none

/-! ### arguments, displays -/
def aNil : SL π := fun _ p => some ([], p)
def aCons (α : SE π) (ω : SL π) : SL π := fun σ p => (α σ p).bind fun x => (ω σ x.2).map fun y => (x.1 :: y.1, y.2)
variable {ω : SL π}
theorem fa_nil : FA S N sc Z [] aNil := ⟨_, fun _ _ => pa_nil, fun F B vs H σ p ds p' Q r e k => by
  cases e
  exact k [] H B (Same.refl B) r .nil⟩
theorem fa_cons (ha : FE S N sc Z e α) (hr : FA S N sc Z es ω) (hs : ∀ X : Cx, starEach (e :: es) X.env = (false, eval e X.env) :: starEach es X.env := by intro _; rfl) : FA S N sc Z (e :: es) (aCons α ω) := by
  obtain ⟨t, a1, a2⟩ := ha.ex
  obtain ⟨u, b1, b2⟩ := hr.ex
  refine ⟨_, fun X hX => pa_cons (a1 X hX) (b1 X hX) (hs X), fun F B vs H σ p ds p' Q r q k => ?_⟩
  obtain ⟨⟨x, p1⟩, e1, q⟩ := bnd q
  obtain ⟨⟨y, p2⟩, e2, e3⟩ := mpd q
  cases e3
  refine a2 F B vs H σ p x p1 _ r e1 fun v H1 B1 s1 r1 d1 => ?_
  exact b2 F B1 vs H1 σ p1 y p2 _ r1 e2 fun xs H2 B2 s2 r2 d2 => k _ H2 B2 (s1.trans s2) r2 (.cons (Dq_up s2 x v d1) d2)
def xTup (ω : SL π) : SE π := fun σ p => (ω σ p).bind fun x => if x.1.length ≤ sizeLine then some (.tuple x.1, x.2) else none
def lDisp (ω : SL π) : SL π := fun σ p => (ω σ p).bind fun x => if x.1.length ≤ sizeLine then some x else none
theorem fe_tup {x1} (h : FA S N sc Z es ω) : FE S N sc Z (.Tuple es x1 pos) (xTup ω) := by
  obtain ⟨t, a1, a2⟩ := h.ex
  refine ⟨_, fun X hX => pe_tup (a1 X hX), fun F B vs H σ p d p' Q r q k => ?_⟩
  obtain ⟨⟨x, p1⟩, e1, q⟩ := bnd q
  have q : (if x.length ≤ sizeLine then some (PyData.tuple x, p1) else none) = some (d, p') := q
  split at q
  · rename_i hl
    cases q
    refine a2 F B vs H σ p _ _ _ r e1 fun xs H1 B1 s1 r1 d1 => ⟨by rw [DqAll.len d1]; exact hl, fun a ha => ?_⟩
    have gr : Gr B1 H1 (upd B1 a (.tup xs)) (upd H1 a (.tup xs)) := Gr.new r1.sub ha
    exact k _ _ _ (s1.trans gr.b) (r1.grow gr) (.tup (SqT.of upd_same) (DqA_up gr.b _ xs d1))
  · cases q
theorem newL_of {K : PySem.W.Frag} {F : Fx} {B B' : Hp} {vs : L2.St} {H H' : Hp} {σ : Sg} {p : π} {a : Addr} {ys : List V} {ds : List D} (r : Rep K Z F B vs H σ p) (gr : Gr B H B' H') (ha : H a = none) (hb : B' a = none)
    (h1 : H' a = some (.lst ys)) (h2 : DqAll K B' ys ds) : NewL K Z F B' vs H' σ p a ds where
  rep := r.grow gr
  is := ⟨ys, h1, h2⟩
  nB := hb
  n0 := by
    cases e : F.H0 a with
    | none => rfl
    | some o =>
      by_cases z : a ∈ Z.fp F.pa F.g
      · exact absurd ha (Z.trk _ _ _ _ r.pok a z)
      · rw [r.old a o z e] at ha; cases ha
  nN := fun z => r.noH a z ha
  nS := fun i es e q => by
    obtain ⟨b, xs, g1, g2, _⟩ := r.own i es e
    rw [q] at g1
    cases g1
    rw [ha] at g2
    cases g2
theorem fl_disp (h : FA S N sc Z es ω) : FL S N sc Z (.List es pos) (lDisp ω) := by
  obtain ⟨t, a1, a2⟩ := h.ex
  refine ⟨_, fun X hX => pe_lst (a1 X hX), fun F B vs H σ p d p' Q r q k => ?_⟩
  obtain ⟨⟨x, p1⟩, e1, q⟩ := bnd q
  have q : (if x.length ≤ sizeLine then some (x, p1) else none) = some (d, p') := q
  split at q
  · rename_i hl
    cases q
    refine a2 F B vs H σ p _ _ _ r e1 fun xs H1 B1 s1 r1 d1 => ⟨by rw [DqAll.len d1]; exact hl, fun a ha => ?_⟩
    exact k _ _ B1 s1 (newL_of r1 (Gr.lay r1.sub ha) ha (r1.sub.free ha) upd_same d1)
  · cases q

/-! ### calls by values -/
def xCall (f : List D → Option D) (ω : SL π) : SE π := fun σ p => (ω σ p).bind fun x => (f x.1).map fun z => (z, x.2)
def lCall (f : List D → Option (List D)) (ω : SL π) : SL π := fun σ p => (ω σ p).bind fun x => (f x.1).map fun z => (z, x.2)
theorem sem_call {K : PySem.W.Frag} {r : List V → Hp → VK → Prop} {f : List D → Option D} {ta : TA} (h : ValN K r f) (ha : SemA K Z ta ω) : SemE K Z (tCB r ta) (xCall f ω) := by
  intro F B vs H σ p d p' Q rp e k
  obtain ⟨⟨x, p1⟩, e1, e⟩ := bnd e
  obtain ⟨z, e3, e4⟩ := mpd e
  cases e4
  refine ha F B vs H σ p x p1 _ rp e1 fun v H1 B1 s1 r1 d1 => ?_
  exact h B1 H1 v x _ Q r1.sub d1 e3 fun w H3 B3 gr dw => k w H3 B3 (s1.trans gr.b) (r1.grow gr) dw
theorem sem_callL {K : PySem.W.Frag} {r : List V → Hp → VK → Prop} {f : List D → Option (List D)} {ta : TA} (h : ValNL K r f) (ha : SemA K Z ta ω) : SemL K Z (tCB r ta) (lCall f ω) := by
  intro F B vs H σ p d p' Q rp e k
  obtain ⟨⟨x, p1⟩, e1, e⟩ := bnd e
  obtain ⟨z, e3, e4⟩ := mpd e
  cases e4
  refine ha F B vs H σ p x p1 _ rp e1 fun v H1 B1 s1 r1 d1 => ?_
  exact h B1 H1 v x _ Q r1.sub d1 e3 fun a ys H3 B3 gr ha hb h1 h2 => k a H3 B3 (s1.trans gr.b) (newL_of r1 gr ha hb h1 h2)
variable {x : Str} {q1 : Pos} {id T : String} {r : List V → Hp → VK → Prop} {f : List D → Option D} {fl : List D → Option (List D)}
def Gb (sc : Scope) (x : Str) : Prop := sc.names.lookup x = some .globalImplicit
theorem gl_of {X : Cx} (hX : Fam S N sc X) (h : Gb sc x) : Gl X x := by
  obtain ⟨_, s0, H0, env, outer, stack, ex, fn, pn, hs, e⟩ := hX
  subst e
  show env.scope.names.lookup x = _
  rw [hs]; exact h
theorem mg_of {X : Cx} (hX : Fam S N sc X) : X.mg = S.mg := by
  obtain ⟨_, s0, H0, env, outer, stack, ex, fn, pn, hs, e⟩ := hX
  subst e; rfl
theorem fe_callB (hc : ∀ X, Fam S N sc X → CallR X (.builtin id) r) (hv : ValN S.K r f) (hg : Gb sc x) (hm : S.mg x = none) (hb : bootBuiltins x = some (.builtin id)) (ha : FA S N sc Z (e :: es) ω) (hn : x ≠ "__name__" := by decide) (hdb : (x == ("__debug__" : Str)) = false := by decide)
    (he : ∀ X : Cx, starEach (e :: es) X.env = (false, eval e X.env) :: starEach es X.env := by intro _; rfl) (hpl : ∀ X : Cx, (backTo pos (starEach es X.env)).any (·.1) = false := by intro _; rfl) :
    FE S N sc Z (.Call (.Name x q1) (e :: es) [] pos) (xCall f ω) := by
  obtain ⟨t, a1, a2⟩ := ha.ex
  exact ⟨_, fun X hX => pe_callB (hc X hX) (gl_of hX hg) (by rw [mg_of hX]; exact hm) hb (a1 X hX) hn hdb (he X) (hpl X), sem_call hv a2⟩
theorem fe_callTy (hc : ∀ X, Fam S N sc X → CallR X (.type T) r) (hv : ValN S.K r f) (hg : Gb sc x) (hm : S.mg x = none) (hb : bootBuiltins x = some (.type T)) (ha : FA S N sc Z (e :: es) ω) (hn : x ≠ "__name__" := by decide) (hdb : (x == ("__debug__" : Str)) = false := by decide)
    (he : ∀ X : Cx, starEach (e :: es) X.env = (false, eval e X.env) :: starEach es X.env := by intro _; rfl) (hpl : ∀ X : Cx, (backTo pos (starEach es X.env)).any (·.1) = false := by intro _; rfl) :
    FE S N sc Z (.Call (.Name x q1) (e :: es) [] pos) (xCall f ω) := by
  obtain ⟨t, a1, a2⟩ := ha.ex
  exact ⟨_, fun X hX => pe_callTy (hc X hX) (gl_of hX hg) (by rw [mg_of hX]; exact hm) hb (a1 X hX) hn hdb (he X) (hpl X), sem_call hv a2⟩
theorem fl_callB (hc : ∀ X, Fam S N sc X → CallR X (.builtin id) r) (hv : ValNL S.K r fl) (hg : Gb sc x) (hm : S.mg x = none) (hb : bootBuiltins x = some (.builtin id)) (ha : FA S N sc Z (e :: es) ω) (hn : x ≠ "__name__" := by decide) (hdb : (x == ("__debug__" : Str)) = false := by decide)
    (he : ∀ X : Cx, starEach (e :: es) X.env = (false, eval e X.env) :: starEach es X.env := by intro _; rfl) (hpl : ∀ X : Cx, (backTo pos (starEach es X.env)).any (·.1) = false := by intro _; rfl) :
    FL S N sc Z (.Call (.Name x q1) (e :: es) [] pos) (lCall fl ω) := by
  obtain ⟨t, a1, a2⟩ := ha.ex
  exact ⟨_, fun X hX => pe_callB (hc X hX) (gl_of hX hg) (by rw [mg_of hX]; exact hm) hb (a1 X hX) hn hdb (he X) (hpl X), sem_callL hv a2⟩
theorem fl_callTy (hc : ∀ X, Fam S N sc X → CallR X (.type T) r) (hv : ValNL S.K r fl) (hg : Gb sc x) (hm : S.mg x = none) (hb : bootBuiltins x = some (.type T)) (ha : FA S N sc Z (e :: es) ω) (hn : x ≠ "__name__" := by decide) (hdb : (x == ("__debug__" : Str)) = false := by decide)
    (he : ∀ X : Cx, starEach (e :: es) X.env = (false, eval e X.env) :: starEach es X.env := by intro _; rfl) (hpl : ∀ X : Cx, (backTo pos (starEach es X.env)).any (·.1) = false := by intro _; rfl) :
    FL S N sc Z (.Call (.Name x q1) (e :: es) [] pos) (lCall fl ω) := by
  obtain ⟨t, a1, a2⟩ := ha.ex
  exact ⟨_, fun X hX => pe_callTy (hc X hX) (gl_of hX hg) (by rw [mg_of hX]; exact hm) hb (a1 X hX) hn hdb (he X) (hpl X), sem_callL hv a2⟩
end
end FL

namespace FL
open PySem PySem.Spec PyProof.Rows L2

/-! ### statements -/
inductive Out (π : Type) where
  | nx (σ : Sg) (p : π)
  | rt (d : D) (p : π)
  | bk (σ : Sg) (p : π)
  | ct (σ : Sg) (p : π)
abbrev SS (π : Type) := Sg → π → Option (Out π)
def Fits {π : Type} (K : PySem.W.Frag) (Z : PotK π) (F : Fx) (B : Hp) (E : Ends) : Out π → Prop
  | .nx σ p => ∀ vs H' B', Same B B' → Rep K Z F B' vs H' σ p → E.nx vs H'
  | .rt d p => ∀ v vs H' B' σ, Same B B' → Rep K Z F B' vs H' σ p → Dq K B' v d → E.rt v H'
  | .bk σ p => ∀ vs H' B', Same B B' → Rep K Z F B' vs H' σ p → E.bk vs H'
  | .ct σ p => ∀ vs H' B', Same B B' → Rep K Z F B' vs H' σ p → E.ct vs H'
theorem Fits.up {π : Type} {K : PySem.W.Frag} {Z : PotK π} {F : Fx} {B B1 : Hp} {E : Ends} {o : Out π} (s : Same B B1) (h : Fits K Z F B E o) : Fits K Z F B1 E o := by
  cases o with
  | nx σ p => exact fun vs H' B' s' r => h vs H' B' (s.trans s') r
  | rt d p => exact fun v vs H' B' σ s' r => h v vs H' B' σ (s.trans s') r
  | bk σ p => exact fun vs H' B' s' r => h vs H' B' (s.trans s') r
  | ct σ p => exact fun vs H' B' s' r => h vs H' B' (s.trans s') r
def SemS {π : Type} (K : PySem.W.Frag) (Z : PotK π) (ts : TS) (ψ : SS π) : Prop :=
  ∀ (F : Fx) (B : Hp) (vs : L2.St) (H : Hp) (σ : Sg) (p : π) (o : Out π) (E : Ends),
    Rep K Z F B vs H σ p → ψ σ p = some o → Fits K Z F B E o → ts E vs H
structure FS {π : Type} (S : Sta) (N : List Str) (sc : Scope) (Z : PotK π) (st : Stmt) (ψ : SS π) : Prop where
  ex : ∃ ts, (∀ X, Fam1 S N sc X → PS X st ts) ∧ SemS S.K Z ts ψ
structure FSs {π : Type} (S : Sta) (N : List Str) (sc : Scope) (Z : PotK π) (st : List Stmt) (ψ : SS π) : Prop where
  ex : ∃ ts, (∀ X, Fam1 S N sc X → PSs X st ts) ∧ SemS S.K Z ts ψ
/-- a fact of the scope alone -/
def InSc (sc : Scope) (P : Env → Prop) : Prop := ∀ env : Env, env.scope = sc → P env
theorem InSc.at {sc : Scope} {P : Env → Prop} {S : Sta} {N : List Str} {X : Cx} (h : InSc sc P) (hX : Fam S N sc X) : P X.env := by
  obtain ⟨_, s0, H0, env, outer, stack, ex, fn, pn, hs, e⟩ := hX
  subst e; exact h env hs

section
variable {π : Type} {Z : PotK π} {S : Sta} {N : List Str} {sc : Scope} {e a b : Expr} {es : List Expr} {pos : Pos} {st : Stmt} {rest : List Stmt} {ψ χ : SS π} {α β : SE π} {φ : SB π} {ω : SL π}
def sNil : SS π := fun σ p => some (.nx σ p)
def sSeq (ψ χ : SS π) : SS π := fun σ p => match ψ σ p with
  | some (.nx σ' p') => χ σ' p'
  | o => o
theorem fs_nil : FSs S N sc Z [] (sNil (π := π)) := ⟨_, fun _ _ => pss_nil, fun F B vs H σ p o E r e h => by
  cases e
  exact h vs H B (Same.refl B) r⟩
theorem fs_cons (h1 : FS S N sc Z st ψ) (h2 : FSs S N sc Z rest χ) : FSs S N sc Z (st :: rest) (sSeq ψ χ) := by
  obtain ⟨t, a1, a2⟩ := h1.ex
  obtain ⟨u, b1, b2⟩ := h2.ex
  refine ⟨_, fun X hX => pss_cons (a1 X hX) (b1 X hX), fun F B vs H σ p o E r e h => ?_⟩
  unfold sSeq at e
  cases c : ψ σ p with
  | none => rw [c] at e; cases e
  | some w =>
    rw [c] at e
    refine a2 F B vs H σ p w _ r c ?_
    cases w with
    | nx σ1 p1 => exact fun vs1 H1 B1 s1 r1 => b2 F B1 vs1 H1 σ1 p1 o E r1 e (h.up s1)
    | rt d p1 =>
      cases e
      exact h
    | bk σ1 p1 =>
      cases e
      exact h
    | ct σ1 p1 =>
      cases e
      exact h
theorem fs_one (h1 : FS S N sc Z st ψ) : FSs S N sc Z [st] ψ := by
  obtain ⟨t, a1, a2⟩ := h1.ex
  exact ⟨_, fun X hX => pss_one (a1 X hX), a2⟩
theorem fs_pass : FS S N sc Z (.Pass pos) (sNil (π := π)) := ⟨_, fun _ _ => ps_pass, fun F B vs H σ p o E r e h => by
  cases e
  exact h vs H B (Same.refl B) r⟩
theorem fs_doc {x : Str} {j} {pos' : Pos} : FS S N sc Z (.Expr (.Constant (.str x) j pos) pos') (sNil (π := π)) := ⟨_, fun _ _ => ps_doc, fun F B vs H σ p o E r e h => by
  cases e
  exact h vs H B (Same.refl B) r⟩
def sBrk : SS π := fun σ p => some (.bk σ p)
def sCnt : SS π := fun σ p => some (.ct σ p)
theorem fs_brk : FS S N sc Z (.Break pos) (sBrk (π := π)) := ⟨_, fun _ _ => ps_break, fun F B vs H σ p o E r e h => by
  cases e
  exact h vs H B (Same.refl B) r⟩
theorem fs_cnt : FS S N sc Z (.Continue pos) (sCnt (π := π)) := ⟨_, fun _ _ => ps_continue, fun F B vs H σ p o E r e h => by
  cases e
  exact h vs H B (Same.refl B) r⟩
def sRet (α : SE π) : SS π := fun σ p => (α σ p).map fun x => .rt x.1 x.2
theorem fs_ret (h : FE S N sc Z e α) : FS S N sc Z (.Return (some e) pos) (sRet α) := by
  obtain ⟨t, a1, a2⟩ := h.ex
  refine ⟨_, fun X hX => ps_ret (a1 X hX.1), fun F B vs H σ p o E r e h => ?_⟩
  obtain ⟨⟨x, p1⟩, e1, e2⟩ := mpd e
  cases e2
  exact a2 F B vs H σ p x p1 _ r e1 fun v H1 B1 s1 r1 d1 => h v vs H1 B1 σ s1 r1 d1
def sRetN : SS π := fun _ p => some (.rt .none p)
theorem fs_retN : FS S N sc Z (.Return none pos) (sRetN (π := π)) := ⟨_, fun _ _ => ps_retN, fun F B vs H σ p o E r e h => by
  cases e
  exact h _ vs H B σ (Same.refl B) r .non⟩
def sDrop (α : SE π) : SS π := fun σ p => (α σ p).map fun x => .nx σ x.2
theorem fs_drop (h : FE S N sc Z e α) (hs : InSc sc fun env => swapsWith e none pos.line env = pure false := by intro env h; cases env; cases h; rfl) : FS S N sc Z (.Expr e pos) (sDrop α) := by
  obtain ⟨t, a1, a2⟩ := h.ex
  refine ⟨_, fun X hX => ps_expr (a1 X hX.1) (hs.at hX.1), fun F B vs H σ p o E r e h => ?_⟩
  obtain ⟨⟨x, p1⟩, e1, e2⟩ := mpd e
  cases e2
  exact a2 F B vs H σ p x p1 _ r e1 fun v H1 B1 s1 r1 d1 => h vs H1 B1 s1 r1
def sIf (φ : SB π) (ψ χ : SS π) : SS π := fun σ p => (φ σ p).bind fun x => if x.1 = true then ψ σ x.2 else χ σ x.2
theorem fs_if {c : Expr} {x y : List Stmt} (hc : FT S N sc Z c φ) (h1 : FSs S N sc Z x ψ) (h2 : FSs S N sc Z y χ) : FS S N sc Z (.If c x y pos) (sIf φ ψ χ) := by
  obtain ⟨t, c1, c2⟩ := hc.ex
  obtain ⟨u, a1, a2⟩ := h1.ex
  obtain ⟨w, b1, b2⟩ := h2.ex
  refine ⟨_, fun X hX => ps_if (c1 X hX.1) (a1 X hX) (b1 X hX), fun F B vs H σ p o E r e h => ?_⟩
  obtain ⟨⟨x, p1⟩, e1, e⟩ := bnd e
  refine c2 F B vs H σ p x p1 _ r e1 fun H1 B1 s1 r1 => ?_
  cases x with
  | true => exact a2 F B1 vs H1 σ p1 o E r1 e (h.up s1)
  | false => exact b2 F B1 vs H1 σ p1 o E r1 e (h.up s1)

/-! ### assignments -/
/-- x = e, the value known -/
def sSet (i : Nat) (α : SE π) : SS π := fun σ p => (α σ p).map fun x => .nx (σ.set i (.val x.1)) x.2
/-- x = e, a list of one's own -/
def sSetL (i : Nat) (ω : SL π) : SS π := fun σ p => (ω σ p).map fun x => .nx (σ.set i (.own x.1)) x.2
theorem sem_set {K : PySem.W.Frag} {te : TE} (i : Nat) (h : SemE K Z te α) : SemS K Z (tAsg te (gName i)) (sSet i α) := by
  intro F B vs H σ p o E r e h'
  obtain ⟨⟨x, p1⟩, e1, e2⟩ := mpd e
  cases e2
  exact h F B vs H σ p x p1 _ r e1 fun v H1 B1 s1 r1 d1 => h' _ H1 B1 s1 (r1.set i d1)
theorem sem_setL {K : PySem.W.Frag} {te : TE} (i : Nat) (h : SemL K Z te ω) : SemS K Z (tAsg te (gName i)) (sSetL i ω) := by
  intro F B vs H σ p o E r e h'
  obtain ⟨⟨x, p1⟩, e1, e2⟩ := mpd e
  cases e2
  refine h F B vs H σ p x p1 _ r e1 fun a H1 B1 s1 n => ?_
  obtain ⟨xs, g1, g2⟩ := n.is
  exact h' _ H1 B1 s1 (n.rep.setL i g1 g2 n.nB n.n0 n.nN fun j es _ q => n.nS j es q)
theorem set_at {X : Cx} {x : Str} {q : Pos} {i : Nat} {te : TE} (hX : Fam1 S N sc X) (hi : N[i]? = some x) (hx : Loc sc x) (he : PE X e te) (hs : swapsWith e (some (.Name x q)) pos.line X.env = pure false) : PS X (.Assign [.Name x q] e pos) (tAsg te (gName i)) := by
  obtain ⟨⟨nd, s0, H0, env, outer, stack, ex, fn, pn, hs', e⟩, hf⟩ := hX
  subst e
  exact ps_set nd hi (by show Loc env.scope x; rw [hs']; exact hx) he hs (.inl (hf x))
theorem fs_set {x : Str} {q : Pos} (i : Nat) (h : FE S N sc Z e α) (hi : N[i]? = some x := by rfl) (hx : Loc sc x := by first | exact Or.inl rfl | exact Or.inr rfl)
    (hs : InSc sc fun env => swapsWith e (some (.Name x q)) pos.line env = pure false := by intro env h; cases env; cases h; rfl) : FS S N sc Z (.Assign [.Name x q] e pos) (sSet i α) := by
  obtain ⟨t, a1, a2⟩ := h.ex
  exact ⟨_, fun X hX => set_at hX hi hx (a1 X hX.1) (hs.at hX.1), sem_set i a2⟩
theorem fs_setL {x : Str} {q : Pos} (i : Nat) (h : FL S N sc Z e ω) (hi : N[i]? = some x := by rfl) (hx : Loc sc x := by first | exact Or.inl rfl | exact Or.inr rfl)
    (hs : InSc sc fun env => swapsWith e (some (.Name x q)) pos.line env = pure false := by intro env h; cases env; cases h; rfl) : FS S N sc Z (.Assign [.Name x q] e pos) (sSetL i ω) := by
  obtain ⟨t, a1, a2⟩ := h.ex
  exact ⟨_, fun X hX => set_at hX hi hx (a1 X hX.1) (hs.at hX.1), sem_setL i a2⟩
theorem var_at {X : Cx} {x : Str} {q : Pos} {i : Nat} (hX : Fam S N sc X) (hi : N[i]? = some x) (hv : Vis sc x) (hd : (x == ("__debug__" : Str)) = false) (hcd : (x == ("__classdict__" : Str)) = false) : PE X (.Name x q) (tVar i) := by
  obtain ⟨nd, s0, H0, env, outer, stack, ex, fn, pn, hs', e⟩ := hX
  subst e
  exact pe_var (i := i) hi (by show Vis env.scope x; rw [hs']; exact hv) hd hcd
/-- x = y, y's list goes over to x -/
def sMove (i j : Nat) : SS π := fun σ p => match σ[j]? with
  | some (.own ds) => if i = j then none else some (.nx ((σ.set j .un).set i (.own ds)) p)
  | _ => none
theorem fs_move {x y : Str} {q q2 : Pos} (i j : Nat) (hi : N[i]? = some x := by rfl) (hj : N[j]? = some y := by rfl) (hx : Loc sc x := by first | exact Or.inl rfl | exact Or.inr rfl)
    (hv : Vis sc y := by first | exact Or.inl rfl | exact Or.inr (Or.inl rfl) | exact Or.inr (Or.inr rfl)) (hs : InSc sc fun env => swapsWith (.Name y q2) (some (.Name x q)) pos.line env = pure false := by intro env h; cases env; cases h; rfl)
    (hd : (y == ("__debug__" : Str)) = false := by decide) (hcd : (y == ("__classdict__" : Str)) = false := by decide) : FS S N sc Z (.Assign [.Name x q] (.Name y q2) pos) (sMove (π := π) i j) := by
  refine ⟨_, fun X hX => set_at hX hi hx (var_at hX.1 hj hv hd hcd) (hs.at hX.1), fun F B vs H σ p o E r e h => ?_⟩
  unfold sMove at e
  split at e
  · rename_i ds q
    split at e
    · cases e
    · rename_i ne
      cases e
      obtain ⟨c, xs, h1, h2, h3, h4, h5, h6⟩ := r.own j ds q
      refine ⟨_, h1, ?_⟩
      have r1 := r.drop j (some (.ref c))
      have hl : j < vs.length := (List.getElem?_eq_some_iff.mp h1).1
      have e0 : vs.set j (some (.ref c)) = vs := by
        apply List.ext_getElem?
        intro k
        by_cases z : j = k
        · subst z; rw [List.getElem?_set_self hl]; exact h1.symm
        · rw [List.getElem?_set_ne z]
      rw [e0] at r1
      refine h _ H B (Same.refl B) (r1.setL i h2 h3 h4 h5 h6 fun k es n w z => ?_)
      by_cases jk : j = k
      · subst jk
        rw [List.getElem?_set_self (List.getElem?_eq_some_iff.mp q).1] at w
        cases w
      · rw [List.getElem?_set_ne jk] at w
        exact jk (r.apart k j c es ds z h1 w q).symm
  · cases e
/-- ahead of a statement a list becomes known -/
def sFz (i : Nat) (ψ : SS π) : SS π := fun σ p => match σ[i]? with
  | some (.own ds) => ψ (σ.set i (.val (.list ds))) p
  | _ => ψ σ p
theorem sem_fz {K : PySem.W.Frag} {ts : TS} (i : Nat) (h : SemS K Z ts ψ) : SemS K Z ts (sFz i ψ) := by
  intro F B vs H σ p o E r e k
  unfold sFz at e
  split at e
  · rename_i ds q
    obtain ⟨B1, s1, r1⟩ := r.freeze q
    exact h F B1 vs H _ p o E r1 e (k.up s1)
  · exact h F B vs H σ p o E r e k
theorem fs_fz (i : Nat) (h : FS S N sc Z st ψ) : FS S N sc Z st (sFz i ψ) := by
  obtain ⟨t, a1, a2⟩ := h.ex
  exact ⟨t, a1, sem_fz i a2⟩

/-! ### lists of one's own, changed -/
theorem attr_base {X : Cx} {x : Str} {q : Pos} {m : Str} : True := trivial
/-- x.append(e) -/
def sApp (i : Nat) (α : SE π) : SS π := fun σ p => (α σ p).bind fun x => match σ[i]? with
  | some (.own ds) => if ds.length < sizeLine then some (.nx (σ.set i (.own (ds ++ [x.1]))) x.2) else none
  | _ => none
theorem sem_app {K : PySem.W.Frag} {ta : TA} (i : Nat) (h : SemA K Z ta (aCons α aNil)) : SemS K Z (tDrop (tBM K "list" rAppend (tVar i) ta)) (sApp i α) := by
  intro F B vs H σ p o E r e k
  obtain ⟨⟨x, p1⟩, e1, e⟩ := bnd e
  cases q : σ[i]? with
  | none => rw [q] at e; cases e
  | some w =>
    rw [q] at e
    cases w with
    | own ds =>
      have e : (if ds.length < sizeLine then some (Out.nx (σ.set i (Sl.own (ds ++ [x]))) p1) else none) = some o := e
      split at e
      · rename_i hl
        cases e
        obtain ⟨c, xs, h1, h2, h3, h4, h5, h6⟩ := r.own i ds q
        refine ⟨_, h1, .inl ⟨rfl, _, SqL.of h2⟩, ?_⟩
        refine h F B vs H σ p [x] p1 _ r (by unfold aCons; rw [e1]; rfl) fun ys H1 B1 s1 r1 d1 => ?_
        cases d1 with
        | cons dx dn =>
          cases dn
          obtain ⟨c', xs', g1, g2, g3, _⟩ := r1.own i ds q
          rw [h1] at g1
          cases g1
          refine ⟨_, _, _, rfl, rfl, g2, by rw [DqAll.len g3]; exact hl, ?_⟩
          exact k _ _ B1 s1 (r1.write q h1 (DqAll.app g3 (.cons dx .nil)))
      · cases e
    | _ => cases e
theorem fs_app {x : Str} {q q2 q3 : Pos} (i : Nat) (h : FA S N sc Z [e] (aCons α aNil)) (hi : N[i]? = some x := by rfl)
    (hv : Vis sc x := by first | exact Or.inl rfl | exact Or.inr (Or.inl rfl) | exact Or.inr (Or.inr rfl)) (hs : InSc sc fun env => swapsWith (.Call (.Attribute (.Name x q) "append" q2) [e] [] q3) none pos.line env = pure false := by intro env h; cases env; cases h; rfl)
    (hd : (x == ("__debug__" : Str)) = false := by decide) (hcd : (x == ("__classdict__" : Str)) = false := by decide)
    (hp : ∀ (X : Cx) (t : TA), PE X (.Name x q) (tVar i) → PA X [e] t → PE X (.Call (.Attribute (.Name x q) "append" q2) [e] [] q3) (tBM X.K "list" rAppend (tVar i) t) := by
      intro X t hn ht; exact pe_bm PySem.F.plainAttrs_list PySem.F.slot_list_append PySem.F.type_list_append mt_append hn ht) :
    FS S N sc Z (.Expr (.Call (.Attribute (.Name x q) "append" q2) [e] [] q3) pos) (sApp i α) := by
  obtain ⟨t, a1, a2⟩ := h.ex
  refine ⟨tDrop (tBM S.K "list" rAppend (tVar i) t), fun X hX => ?_, sem_app i a2⟩
  have hn := var_at (q := q) hX.1 hi hv hd hcd
  have ha := a1 X hX.1
  have hs' := hs.at hX.1
  obtain ⟨⟨nd, s0, H0, env, outer, stack, ex, fn, pn, _, e⟩, hf⟩ := hX
  subst e
  exact ps_expr (hp _ t hn ha) hs'
/-- x.extend(e), e a list of any making -/
def sExt (i : Nat) (α : SE π) : SS π := fun σ p => (α σ p).bind fun x => match σ[i]?, x.1 with
  | some (.own ds), .list es => if ds.length + es.length ≤ sizeLine then some (.nx (σ.set i (.own (ds ++ es))) x.2) else none
  | _, _ => none
theorem sem_ext {K : PySem.W.Frag} {ta : TA} (i : Nat) (h : SemA K Z ta (aCons α aNil)) : SemS K Z (tDrop (tBM K "list" rExtend (tVar i) ta)) (sExt i α) := by
  intro F B vs H σ p o E r e k
  obtain ⟨⟨x, p1⟩, e1, e⟩ := bnd e
  cases q : σ[i]? with
  | none => rw [q] at e; cases e
  | some w =>
    rw [q] at e
    cases w with
    | own ds =>
      cases x with
      | list es =>
        have e : (if ds.length + es.length ≤ sizeLine then some (Out.nx (σ.set i (Sl.own (ds ++ es))) p1) else none) = some o := e
        split at e
        · rename_i hl
          cases e
          obtain ⟨c, xs, h1, h2, h3, h4, h5, h6⟩ := r.own i ds q
          refine ⟨_, h1, .inl ⟨rfl, _, SqL.of h2⟩, ?_⟩
          refine h F B vs H σ p [.list es] p1 _ r (by unfold aCons; rw [e1]; rfl) fun ys H1 B1 s1 r1 d1 => ?_
          cases d1 with
          | cons dx dn =>
            cases dn
            cases dx with
            | lst hb hd =>
              obtain ⟨c', xs', g1, g2, g3, _⟩ := r1.own i ds q
              rw [h1] at g1
              cases g1
              refine ⟨_, _, _, _, rfl, rfl, g2, r1.sub _ _ hb, by rw [DqAll.len g3, DqAll.len hd]; exact hl, ?_⟩
              exact k _ _ B1 s1 (r1.write q h1 (DqAll.app g3 hd))
        · cases e
      | _ => cases e
    | _ => cases e
theorem fs_ext {x : Str} {q q2 q3 : Pos} (i : Nat) (h : FA S N sc Z [e] (aCons α aNil)) (hi : N[i]? = some x := by rfl)
    (hv : Vis sc x := by first | exact Or.inl rfl | exact Or.inr (Or.inl rfl) | exact Or.inr (Or.inr rfl)) (hs : InSc sc fun env => swapsWith (.Call (.Attribute (.Name x q) "extend" q2) [e] [] q3) none pos.line env = pure false := by intro env h; cases env; cases h; rfl)
    (hd : (x == ("__debug__" : Str)) = false := by decide) (hcd : (x == ("__classdict__" : Str)) = false := by decide)
    (hp : ∀ (X : Cx) (t : TA), PE X (.Name x q) (tVar i) → PA X [e] t → PE X (.Call (.Attribute (.Name x q) "extend" q2) [e] [] q3) (tBM X.K "list" rExtend (tVar i) t) := by
      intro X t hn ht; exact pe_bm PySem.F.plainAttrs_list PySem.F.slot_list_extend PySem.F.type_list_extend mt_extend hn ht) :
    FS S N sc Z (.Expr (.Call (.Attribute (.Name x q) "extend" q2) [e] [] q3) pos) (sExt i α) := by
  obtain ⟨t, a1, a2⟩ := h.ex
  refine ⟨tDrop (tBM S.K "list" rExtend (tVar i) t), fun X hX => ?_, sem_ext i a2⟩
  have hn := var_at (q := q) hX.1 hi hv hd hcd
  have ha := a1 X hX.1
  have hs' := hs.at hX.1
  obtain ⟨⟨nd, s0, H0, env, outer, stack, ex, fn, pn, _, e⟩, hf⟩ := hX
  subst e
  exact ps_expr (hp _ t hn ha) hs'
/-- a, b = e1, e2: two local names -/
def sPar (i j : Nat) (α β : SE π) : SS π := fun σ p => (α σ p).bind fun x => (β σ x.2).map fun y => .nx ((σ.set i (.val x.1)).set j (.val y.1)) y.2
theorem par_at {X : Cx} {x y : Str} {px py pt pt2 : Pos} {kt k2} {i j : Nat} {t : TA} (hX : Fam1 S N sc X) (ha : PA X [a, b] t) (hij : i ≠ j) (hi : N[i]? = some x) (hj : N[j]? = some y) (hx : sc.names.lookup x = some .local) (hy : sc.names.lookup y = some .local)
    (hw : swappedStores [.Tuple [.Name x px, .Name y py] kt pt] (.Tuple [a, b] k2 pt2) X.env = pure (some [x, y])) (hs : swapsWithSole [.Tuple [.Name x px, .Name y py] kt pt] (.Tuple [a, b] k2 pt2) pos.line X.env = pure false) :
    PS X (.Assign [.Tuple [.Name x px, .Name y py] kt pt] (.Tuple [a, b] k2 pt2) pos) (tPar i j t) := by
  obtain ⟨⟨nd, s0, H0, env, outer, stack, ex, fn, pn, hs', e⟩, hf⟩ := hX
  subst e
  exact ps_par rfl nd hi hj hij (by show env.scope.names.lookup x = _; rw [hs']; exact hx) (by show env.scope.names.lookup y = _; rw [hs']; exact hy) ha hw hs
theorem fs_par {x y : Str} {px py pt pt2 : Pos} {kt k2} (i j : Nat) (h : FA S N sc Z [a, b] (aCons α (aCons β aNil))) (hij : i ≠ j := by decide) (hi : N[i]? = some x := by rfl) (hj : N[j]? = some y := by rfl)
    (hx : sc.names.lookup x = some .local := by rfl) (hy : sc.names.lookup y = some .local := by rfl)
    (hw : InSc sc fun env => swappedStores [.Tuple [.Name x px, .Name y py] kt pt] (.Tuple [a, b] k2 pt2) env = pure (some [x, y]) := by intro env h; cases env; cases h; rfl)
    (hs : InSc sc fun env => swapsWithSole [.Tuple [.Name x px, .Name y py] kt pt] (.Tuple [a, b] k2 pt2) pos.line env = pure false := by intro env h; cases env; cases h; rfl) :
    FS S N sc Z (.Assign [.Tuple [.Name x px, .Name y py] kt pt] (.Tuple [a, b] k2 pt2) pos) (sPar i j α β) := by
  obtain ⟨t, a1, a2⟩ := h.ex
  refine ⟨tPar i j t, fun X hX => par_at hX (a1 X hX.1) hij hi hj hx hy (hw.at hX.1) (hs.at hX.1), fun F B vs H σ p o E r e k => ?_⟩
  obtain ⟨⟨x, p1⟩, e1, e⟩ := bnd e
  obtain ⟨⟨y, p2⟩, e2, e3⟩ := mpd e
  cases e3
  refine a2 F B vs H σ p [x, y] p2 _ r (by unfold aCons; rw [e1]; show ((β σ p1).bind _).map _ = _; rw [e2]; rfl) fun ys H1 B1 s1 r1 d1 => ?_
  cases d1 with
  | cons dx dn =>
    cases dn with
    | cons dy dn =>
      cases dn
      exact ⟨_, _, rfl, k _ H1 B1 s1 ((r1.set i dx).set j dy)⟩
end
end FL

namespace FL
open PySem PySem.Spec PyProof.Rows L2

/-! ### what is walked -/
structure ItOk (K : PySem.W.Frag) (J : It) (B : Hp) (ds : List D) : Prop where
  stop : ∀ (i : Nat) (H : Hp), Same B H → ds.length ≤ i → J.stop i H
  go : ∀ (i : Nat) (H : Hp), Same B H → i < ds.length → J.go i H
  yld : ∀ (i : Nat) (H : Hp) (x : V) (H' : Hp) (d : D), Same B H → J.yld i H x H' → ds[i]? = some d →
    ∀ B2, Same B B2 → Same B2 H → ∃ B3, Gr B2 H B3 H' ∧ Dq K B3 x d
def SemI {π : Type} (K : PySem.W.Frag) (Z : PotK π) (wi : TI) (φ : SL π) : Prop :=
  ∀ (F : Fx) (B : Hp) (vs : L2.St) (H : Hp) (σ : Sg) (p : π) (ds : List D) (p' : π) (R : It → Hp → Prop),
    Rep K Z F B vs H σ p → φ σ p = some (ds, p') →
    (∀ J H' B', Same B B' → Rep K Z F B' vs H' σ p' → ItOk K J B' ds → R J H') → wi vs H R
structure FI {π : Type} (S : Sta) (N : List Str) (sc : Scope) (Z : PotK π) (tg it : Expr) (φ : SL π) : Prop where
  ex : ∃ wi, (∀ X, Fam S N sc X → PI X tg it wi) ∧ SemI S.K Z wi φ
theorem it_list {K : PySem.W.Frag} {B : Hp} {a : Addr} {xs : List V} {ds : List D} (h : B a = some (.lst xs)) (hd : DqAll K B xs ds) : ItOk K (Itl K a) B ds where
  stop := fun i H s hi => ⟨xs, SqL.of (s a _ h), by rw [DqAll.len hd]; exact hi⟩
  go := fun i H s hi => by
    have hx : i < xs.length := by rw [DqAll.len hd]; exact hi
    exact ⟨xs, xs[i], SqL.of (s a _ h), List.getElem?_eq_getElem hx⟩
  yld := fun i H x H' d s y e B2 s1 s2 => by
    obtain ⟨eH, y⟩ := y
    subst eH
    exact ⟨B2, Gr.refl s2, Dq_up s1 d x (DqAll.at hd (y xs (SqL.of (s a _ h))) e)⟩
theorem it_tup {K : PySem.W.Frag} {B : Hp} {a : Addr} {xs : List V} {ds : List D} (h : SqT K B a xs) (hd : DqAll K B xs ds) : ItOk K (Itt K a) B ds where
  stop := fun i H s hi => ⟨xs, sq_t s h, by rw [DqAll.len hd]; exact hi⟩
  go := fun i H s hi => by
    have hx : i < xs.length := by rw [DqAll.len hd]; exact hi
    exact ⟨xs, xs[i], sq_t s h, List.getElem?_eq_getElem hx⟩
  yld := fun i H x H' d s y e B2 s1 s2 => by
    obtain ⟨eH, y⟩ := y
    subst eH
    exact ⟨B2, Gr.refl s2, Dq_up s1 d x (DqAll.at hd (y xs (sq_t s h)) e)⟩
/-- a list or a tuple -/
def iSeq (K : PySem.W.Frag) (tl : TE) : TI := fun σ H R => tl σ H fun x H1 => ∃ a, x = V.ref a ∧
  (((∃ xs, SqL K H1 a xs) ∧ R (Itl K a) H1) ∨ ((∃ xs, SqT K H1 a xs) ∧ R (Itt K a) H1))
theorem pi_seq {X : Cx} {tg l : Expr} {tl : TE} (hl : PE X l tl) : PI X tg l (iSeq X.K tl) := by
  refine ⟨fun pins s σ H R I h => thn (hl.run pins s σ H _ I h) fun v s1 ⟨x, H1, I1, r1, q1⟩ => ?_⟩
  obtain ⟨a, e, q⟩ := q1
  subst e
  cases r1
  have hfr : ∀ b, b ∈ [s1.heap.objs.size] → FpOk X pins H1 b := fun b hb => by
    obtain rfl : b = s1.heap.objs.size := by simpa using hb
    exact I1.fpOk (Nat.le_refl _) (I1.hok.fresh (Nat.le_refl _))
  rcases q with ⟨⟨xs, hq⟩, q⟩ | ⟨⟨xs, hq⟩, q⟩
  · obtain ⟨its, rv, p, hz⟩ := I1.list hq
    exact wpAny_pyIter_list p.isList ⟨_, _, _, _, H1, rfl, I1.kept (t' := s1.toks) fun b o e => Heap.get?_push_of_some _ e, turn_list a _,
      ⟨_, Heap.get?_push_size _ rfl, rfl, rfl⟩, hfr, q⟩
  · obtain ⟨its, rv, p, hz⟩ := I1.tuple hq
    exact wpAny_pyIter_tuple (show s1.heap.IsTuple a its.toArray from p) ⟨_, _, _, _, H1, rfl, I1.kept (t' := s1.toks) fun b o e => Heap.get?_push_of_some _ e, turn_tuple a _,
      ⟨_, Heap.get?_push_size _ rfl, rfl, rfl⟩, hfr, q⟩
def items : D → Option (List D)
  | .list ds => some ds
  | .tuple ds => some ds
  | _ => none
def iOf {π : Type} (α : SE π) : SL π := fun σ p => (α σ p).bind fun x => (items x.1).map fun ds => (ds, x.2)
def rngL (lo : Int) (n : Nat) : List D := (List.range n).map fun k => .int (lo + (k : Nat))
theorem rngL_get {lo : Int} {n i : Nat} {d : D} (h : (rngL lo n)[i]? = some d) : d = .int (lo + i) := by
  unfold rngL at h
  rw [List.getElem?_map] at h
  cases e : (List.range n)[i]? with
  | none => rw [e] at h; cases h
  | some k =>
    rw [e] at h
    obtain ⟨hk, e2⟩ := List.getElem?_eq_some_iff.mp e
    rw [List.getElem_range] at e2
    subst e2
    exact (Option.some.inj h).symm
theorem rngL_len {lo : Int} {n : Nat} : (rngL lo n).length = n := by unfold rngL; rw [List.length_map, List.length_range]
theorem it_rng {K : PySem.W.Frag} {B : Hp} {lo : Int} {n : Nat} : ItOk K (Itr lo n) B (rngL lo n) where
  stop := fun i H s hi => by rw [rngL_len] at hi; exact hi
  go := fun i H s hi => by rw [rngL_len] at hi; exact hi
  yld := fun i H x H' d s y e B2 s1 s2 => by
    obtain ⟨eH, y⟩ := y
    subst eH y
    rw [rngL_get e]
    exact ⟨B2, Gr.refl s2, .int _⟩
def rngF1 : List D → Option (List D)
  | [.int j] => if -(2 ^ 62) ≤ j ∧ j < 2 ^ 62 then some (rngL 0 j.toNat) else none
  | _ => none
def rngF2 : List D → Option (List D)
  | [.int i, .int j] => if -(2 ^ 62) ≤ i ∧ i < 2 ^ 62 ∧ -(2 ^ 62) ≤ j ∧ j < 2 ^ 62 then some (rngL i (j - i).toNat) else none
  | _ => none
def iBy {π : Type} (f : List D → Option (List D)) (ω : SL π) : SL π := fun σ p => (ω σ p).bind fun x => (f x.1).map fun ds => (ds, x.2)
def enumL : Nat → List D → List D
  | _, [] => []
  | n, d :: r => .tuple [.int (n : Nat), d] :: enumL (n + 1) r
theorem enumL_len : ∀ (n : Nat) (ds : List D), (enumL n ds).length = ds.length
  | _, [] => rfl
  | n, d :: r => by rw [enumL, List.length_cons, List.length_cons, enumL_len (n + 1) r]
theorem enumL_get : ∀ (n : Nat) (ds : List D) (i : Nat) (d : D), (enumL n ds)[i]? = some d → ∃ e, ds[i]? = some e ∧ d = .tuple [.int ((n + i : Nat) : Int), e]
  | _, [], i, d, h => by simp [enumL] at h
  | n, e :: r, 0, d, h => by
    simp [enumL] at h
    exact ⟨e, rfl, h.symm⟩
  | n, e :: r, i + 1, d, h => by
    have h' : (enumL (n + 1) r)[i]? = some d := by simpa [enumL] using h
    obtain ⟨e2, h1, h2⟩ := enumL_get (n + 1) r i d h'
    refine ⟨e2, by simpa using h1, ?_⟩
    rw [h2, show n + 1 + i = n + (i + 1) by omega]
theorem it_enum {K : PySem.W.Frag} {B : Hp} {a : Addr} {xs : List V} {ds : List D} (h : B a = some (.lst xs)) (hd : DqAll K B xs ds) : ItOk K (Ite K a) B (enumL 0 ds) where
  stop := fun i H s hi => ⟨xs, SqL.of (s a _ h), by rw [DqAll.len hd]; rw [enumL_len] at hi; exact hi⟩
  go := fun i H s hi => by
    have hx : i < xs.length := by rw [DqAll.len hd]; rw [enumL_len] at hi; exact hi
    exact ⟨xs, xs[i], SqL.of (s a _ h), List.getElem?_eq_getElem hx⟩
  yld := fun i H x H' d s y e B2 s1 s2 => by
    obtain ⟨T, w, e1, hT, e2, y⟩ := y
    subst e1 e2
    obtain ⟨d', g1, g2⟩ := enumL_get 0 ds i d e
    subst g2
    have gr : Gr B2 H (upd B2 T (.tup [.int (i : Nat), w])) (upd H T (.tup [.int (i : Nat), w])) := Gr.new s2 hT
    refine ⟨_, gr, .tup (SqT.of upd_same) (.cons ?_ (.cons (Dq_up (s1.trans gr.b) d' w (DqAll.at hd (y xs (SqL.of (s a _ h))) g1)) .nil))⟩
    rw [Nat.zero_add]
    exact .int _
def zipL : List D → List D → List D
  | x :: xs, y :: ys => .tuple [x, y] :: zipL xs ys
  | _, _ => []
def enumF : List D → Option (List D)
  | [.list ds] => some (enumL 0 ds)
  | _ => none
def zipF : List D → Option (List D)
  | [.list ds, .list es] => some (zipL ds es)
  | [.tuple ds, .tuple es] => some (zipL ds es)
  | _ => none
theorem zipL_get : ∀ (xs ys : List D) (i : Nat) (d : D), (zipL xs ys)[i]? = some d → ∃ x y, xs[i]? = some x ∧ ys[i]? = some y ∧ d = .tuple [x, y]
  | [], _, i, d, h => by simp [zipL] at h
  | _ :: _, [], i, d, h => by simp [zipL] at h
  | x :: xs, y :: ys, 0, d, h => by
    simp [zipL] at h
    exact ⟨x, y, rfl, rfl, h.symm⟩
  | x :: xs, y :: ys, i + 1, d, h => by
    have h' : (zipL xs ys)[i]? = some d := by simpa [zipL] using h
    obtain ⟨x2, y2, h1, h2, h3⟩ := zipL_get xs ys i d h'
    exact ⟨x2, y2, by simpa using h1, by simpa using h2, h3⟩
theorem zipL_len : ∀ (xs ys : List D), (zipL xs ys).length = min xs.length ys.length
  | [], _ => by simp [zipL]
  | _ :: _, [] => by simp [zipL]
  | x :: xs, y :: ys => by
    rw [zipL, List.length_cons, List.length_cons, List.length_cons, zipL_len xs ys]
    omega
theorem it_zipL {K : PySem.W.Frag} {B : Hp} {a b : Addr} {xs ys : List V} {ds es : List D} (h : B a = some (.lst xs)) (hd : DqAll K B xs ds) (h' : B b = some (.lst ys)) (he : DqAll K B ys es) : ItOk K (Itz K a b) B (zipL ds es) where
  stop := fun i H s hi => ⟨xs, ys, SqL.of (s a _ h), SqL.of (s b _ h'), by rw [DqAll.len hd, DqAll.len he]; rw [zipL_len] at hi; omega⟩
  go := fun i H s hi => by
    rw [zipL_len, ← DqAll.len hd, ← DqAll.len he] at hi
    have hx : i < xs.length := by omega
    have hy : i < ys.length := by omega
    exact ⟨xs, ys, xs[i], ys[i], SqL.of (s a _ h), SqL.of (s b _ h'), List.getElem?_eq_getElem hx, List.getElem?_eq_getElem hy⟩
  yld := fun i H x H' d s y e B2 s1 s2 => by
    obtain ⟨T, w, z, e1, hT, e2, y1, y2⟩ := y
    subst e1 e2
    obtain ⟨d1, d2, g1, g2, g3⟩ := zipL_get ds es i d e
    subst g3
    have gr : Gr B2 H (upd B2 T (.tup [w, z])) (upd H T (.tup [w, z])) := Gr.new s2 hT
    exact ⟨_, gr, .tup (SqT.of upd_same) (.cons (Dq_up (s1.trans gr.b) d1 w (DqAll.at hd (y1 xs (SqL.of (s a _ h))) g1)) (.cons (Dq_up (s1.trans gr.b) d2 z (DqAll.at he (y2 ys (SqL.of (s b _ h'))) g2)) .nil))⟩
theorem it_zipT {K : PySem.W.Frag} {B : Hp} {a b : Addr} {xs ys : List V} {ds es : List D} (h : SqT K B a xs) (hd : DqAll K B xs ds) (h' : SqT K B b ys) (he : DqAll K B ys es) : ItOk K (RZ.ItzT K a b) B (zipL ds es) where
  stop := fun i H s hi => ⟨xs, ys, sq_t s h, sq_t s h', by rw [DqAll.len hd, DqAll.len he]; rw [zipL_len] at hi; omega⟩
  go := fun i H s hi => by
    rw [zipL_len, ← DqAll.len hd, ← DqAll.len he] at hi
    have hx : i < xs.length := by omega
    have hy : i < ys.length := by omega
    exact ⟨xs, ys, xs[i], ys[i], sq_t s h, sq_t s h', List.getElem?_eq_getElem hx, List.getElem?_eq_getElem hy⟩
  yld := fun i H x H' d s y e B2 s1 s2 => by
    obtain ⟨T, w, z, e1, hT, e2, y1, y2⟩ := y
    subst e1 e2
    obtain ⟨d1, d2, g1, g2, g3⟩ := zipL_get ds es i d e
    subst g3
    have gr : Gr B2 H (upd B2 T (.tup [w, z])) (upd H T (.tup [w, z])) := Gr.new s2 hT
    exact ⟨_, gr, .tup (SqT.of upd_same) (.cons (Dq_up (s1.trans gr.b) d1 w (DqAll.at hd (y1 xs (sq_t s h)) g1)) (.cons (Dq_up (s1.trans gr.b) d2 z (DqAll.at he (y2 ys (sq_t s h')) g2)) .nil))⟩

section
variable {π : Type} {Z : PotK π} {S : Sta} {N : List Str} {sc : Scope} {e a b tg : Expr} {es elts : List Expr} {kk : Nat} {pos q1 tpos : Pos} {α β : SE π} {φ : SB π} {ω : SL π} {ψ : SS π}
theorem fi_seq (h : FE S N sc Z e α) : FI S N sc Z tg e (iOf α) := by
  obtain ⟨t, a1, a2⟩ := h.ex
  refine ⟨iSeq S.K t, fun X hX => ?_, fun F B vs H σ p ds p' R r e k => ?_⟩
  · have hp := a1 X hX
    obtain ⟨_, s0, H0, env, outer, stack, ex, fn, pn, hs, hx⟩ := hX
    subst hx
    exact pi_seq hp
  · obtain ⟨⟨x, p1⟩, e1, e⟩ := bnd e
    obtain ⟨ds', e2, e3⟩ := mpd e
    cases e3
    refine a2 F B vs H σ p x p1 _ r e1 fun v H1 B1 s1 r1 d1 => ?_
    cases d1 with
    | lst hs ha =>
      cases e2
      exact ⟨_, rfl, .inl ⟨⟨_, SqL.of (r1.sub _ _ hs)⟩, k _ H1 B1 s1 r1 (it_list hs ha)⟩⟩
    | tup hs ha =>
      cases e2
      exact ⟨_, rfl, .inr ⟨⟨_, sq_t r1.sub hs⟩, k _ H1 B1 s1 r1 (it_tup hs ha)⟩⟩
    | _ => cases e2
variable {f : List D → Option (List D)}
/-- a walk by a call on values -/
def ValI (K : PySem.W.Frag) (r : List V → Hp → (It → Hp → Prop) → Prop) (f : List D → Option (List D)) : Prop :=
  ∀ (B H : Hp) (xs : List V) (ds z : List D) (R : It → Hp → Prop), Same B H → DqAll K B xs ds → f ds = some z → (∀ J, ItOk K J B z → R J H) → r xs H R
theorem sem_iby {K : PySem.W.Frag} {r : List V → Hp → (It → Hp → Prop) → Prop} {ta : TA} (h : ValI K r f) (ha : SemA K Z ta ω) : SemI K Z (fun σ H R => ta σ H fun vs H1 => r vs H1 R) (iBy f ω) := by
  intro F B vs H σ p ds p' R rp e k
  obtain ⟨⟨x, p1⟩, e1, e⟩ := bnd e
  obtain ⟨ds', e2, e3⟩ := mpd e
  cases e3
  exact ha F B vs H σ p x p1 _ rp e1 fun v H1 B1 s1 r1 d1 => h B1 H1 v x _ R r1.sub d1 e2 fun J hJ => k J H1 B1 s1 r1 hJ
theorem vi_rng1 {K : PySem.W.Frag} : ValI K (fun vs H1 R => ∃ j : Int, vs = [.int j] ∧ -(2 ^ 62) ≤ j ∧ j < 2 ^ 62 ∧ R (Itr 0 j.toNat) H1) rngF1 := by
  intro B H xs ds z R s hd e k
  cases hd with
  | nil => cases e
  | cons dx dn =>
    cases dx with
    | int j =>
      cases dn with
      | nil =>
        have e : (if -(2 ^ 62) ≤ j ∧ j < 2 ^ 62 then some (rngL 0 j.toNat) else none) = some z := e
        split at e
        · rename_i hj
          cases e
          exact ⟨j, rfl, hj.1, hj.2, k _ it_rng⟩
        · cases e
      | cons _ _ => cases e
    | _ => cases e
theorem vi_rng2 {K : PySem.W.Frag} : ValI K (fun vs H1 R => ∃ i j : Int, vs = [.int i, .int j] ∧ (-(2 ^ 62) ≤ i ∧ i < 2 ^ 62 ∧ -(2 ^ 62) ≤ j ∧ j < 2 ^ 62) ∧ R (Itr i (j - i).toNat) H1) rngF2 := by
  intro B H xs ds z R s hd e k
  cases hd with
  | nil => cases e
  | cons dx dn =>
    cases dx with
    | int i =>
      cases dn with
      | nil => cases e
      | cons dy dn =>
        cases dy with
        | int j =>
          cases dn with
          | nil =>
            have e : (if -(2 ^ 62) ≤ i ∧ i < 2 ^ 62 ∧ -(2 ^ 62) ≤ j ∧ j < 2 ^ 62 then some (rngL i (j - i).toNat) else none) = some z := e
            split at e
            · rename_i hj
              cases e
              exact ⟨i, j, rfl, hj, k _ it_rng⟩
            · cases e
          | cons _ _ => cases e
        | _ => cases e
    | _ =>
      cases dn with
      | nil => cases e
      | cons _ dn => cases dn <;> cases e
theorem vi_enum {K : PySem.W.Frag} : ValI K (fun vs H1 R => ∃ a xs, vs = [.ref a] ∧ SqL K H1 a xs ∧ R (Ite K a) H1) enumF := by
  intro B H xs ds z R s hd e k
  cases hd with
  | nil => cases e
  | cons dx dn =>
    cases dx with
    | lst h1 h2 =>
      cases dn with
      | nil =>
        cases e
        exact ⟨_, _, rfl, SqL.of (s _ _ h1), k _ (it_enum h1 h2)⟩
      | cons _ _ => cases e
    | _ => cases e
theorem fi_rng1 (hg : Gb sc "range") (hm : S.mg "range" = none) (ha : FA S N sc Z [a] ω) (hs : ∀ X : Cx, starEach [a] X.env = [(false, eval a X.env)] := by intro _; rfl) : FI S N sc Z tg (.Call (.Name "range" q1) [a] [] pos) (iBy rngF1 ω) := by
  obtain ⟨t, a1, a2⟩ := ha.ex
  exact ⟨_, fun X hX => pi_range1 (gl_of hX hg) (by rw [mg_of hX]; exact hm) (a1 X hX) (hs X), sem_iby vi_rng1 a2⟩
theorem fi_rng2 (hg : Gb sc "range") (hm : S.mg "range" = none) (ha : FA S N sc Z [a, b] ω) (hs : ∀ X : Cx, starEach [a, b] X.env = [(false, eval a X.env), (false, eval b X.env)] := by intro _; rfl)
    (hs2 : ∀ X : Cx, starEach [b] X.env = [(false, eval b X.env)] := by intro _; rfl) : FI S N sc Z tg (.Call (.Name "range" q1) [a, b] [] pos) (iBy rngF2 ω) := by
  obtain ⟨t, a1, a2⟩ := ha.ex
  exact ⟨_, fun X hX => pi_range2 (gl_of hX hg) (by rw [mg_of hX]; exact hm) (a1 X hX) (hs X) (hs2 X), sem_iby vi_rng2 a2⟩
theorem fi_enum (hg : Gb sc "enumerate") (hm : S.mg "enumerate" = none) (ha : FA S N sc Z [a] ω) (hs : ∀ X : Cx, starEach [a] X.env = [(false, eval a X.env)] := by intro _; rfl) : FI S N sc Z (.Tuple elts kk tpos) (.Call (.Name "enumerate" q1) [a] [] pos) (iBy enumF ω) := by
  obtain ⟨t, a1, a2⟩ := ha.ex
  refine ⟨iEnum S.K t, fun X hX => ?_, sem_iby vi_enum a2⟩
  have hp := a1 X hX
  have g1 := gl_of hX hg
  have g2 := mg_of hX
  obtain ⟨_, s0, H0, env, outer, stack, ex, fn, pn, hs', hx⟩ := hX
  subst hx
  exact pi_enum g1 (by rw [g2]; exact hm) hp (hs _)

theorem vi_zip {K : PySem.W.Frag} : ValI K (fun vs H1 R => ∃ a b xs ys, vs = [V.ref a, .ref b] ∧ ((SqL K H1 a xs ∧ SqL K H1 b ys ∧ R (Itz K a b) H1) ∨ (SqT K H1 a xs ∧ SqT K H1 b ys ∧ R (RZ.ItzT K a b) H1))) zipF := by
  intro B H xs ds z R s hd e k
  cases hd with
  | nil => cases e
  | cons dx dn =>
    cases dn with
    | nil => cases dx <;> cases e
    | cons dy dn =>
      cases dn with
      | cons _ _ => cases dx <;> cases dy <;> cases e
      | nil =>
        cases dx with
        | lst h1 h2 =>
          cases dy with
          | lst g1 g2 =>
            cases e
            exact ⟨_, _, _, _, rfl, .inl ⟨SqL.of (s _ _ h1), SqL.of (s _ _ g1), k _ (it_zipL h1 h2 g1 g2)⟩⟩
          | _ => cases e
        | tup h1 h2 =>
          cases dy with
          | tup g1 g2 =>
            cases e
            exact ⟨_, _, _, _, rfl, .inr ⟨sq_t s h1, sq_t s g1, k _ (it_zipT h1 h2 g1 g2)⟩⟩
          | _ => cases e
        | _ => cases e
theorem fi_zip (hg : Gb sc "zip") (hm : S.mg "zip" = none) (ha : FA S N sc Z [a, b] ω) (hs : ∀ X : Cx, starEach [a, b] X.env = (false, eval a X.env) :: starEach [b] X.env := by intro _; rfl)
    (hpl : ∀ X : Cx, (backTo pos (starEach [b] X.env)).any (·.1) = false := by intro _; rfl) : FI S N sc Z (.Tuple elts kk tpos) (.Call (.Name "zip" q1) [a, b] [] pos) (iBy zipF ω) := by
  obtain ⟨t, a1, a2⟩ := ha.ex
  refine ⟨RZ.iZipA S.K t, fun X hX => ?_, sem_iby vi_zip a2⟩
  have hp := a1 X hX
  have g1 := gl_of hX hg
  have g2 := mg_of hX
  obtain ⟨_, s0, H0, env, outer, stack, ex, fn, pn, hs', hx⟩ := hX
  subst hx
  exact RZ.pi_zipA g1 (by rw [g2]; exact hm) hp (hs _) (hpl _)

/-! ### targets -/
def SemG (K : PySem.W.Frag) (g : TG) (τ : D → Sg → Option Sg) : Prop :=
  ∀ {π : Type} (Z : PotK π) (F : Fx) (B : Hp) (vs : L2.St) (H : Hp) (σ : Sg) (p : π) (v : V) (d : D) (σ' : Sg) (Q : L2.St → Hp → Prop),
    Rep K Z F B vs H σ p → Dq K B v d → τ d σ = some σ' → (∀ vs', Rep K Z F B vs' H σ' p → Q vs' H) → g v vs H Q
/-- in a comprehension: the block's own slots alone are written -/
def SemGc (K : PySem.W.Frag) (own : List Nat) (g : TG) (τ : D → Sg → Option Sg) : Prop :=
  ∀ {π : Type} (Z : PotK π) (F : Fx) (B : Hp) (vs : L2.St) (H : Hp) (σ : Sg) (p : π) (v : V) (d : D) (σ' : Sg) (Q : L2.St → Hp → Prop),
    Rep K Z F B vs H σ p → Dq K B v d → τ d σ = some σ' → (∀ vs', Rep K Z F B vs' H σ' p → wipe vs' own = wipe vs own → (∀ j, j ∉ own → σ'[j]? = σ[j]? ∧ vs'[j]? = vs[j]?) → Q vs' H) → g v vs H Q
def tgN (i : Nat) : D → Sg → Option Sg := fun d σ => some (σ.set i (.val d))
def tgP (i j : Nat) : D → Sg → Option Sg := fun d σ => match d with
  | .tuple [x, y] => some ((σ.set i (.val x)).set j (.val y))
  | _ => none
theorem sem_gN {K : PySem.W.Frag} {i : Nat} : SemG K (gName i) (tgN i) := by
  intro π Z F B vs H σ p v d σ' Q r hd e k
  cases e
  exact k _ (r.set i hd)
def gPair (K : PySem.W.Frag) (i j : Nat) : TG := gTup K 2 (gCons (gName i) (gCons (gName j) gNil))
theorem sem_gP {K : PySem.W.Frag} {i j : Nat} : SemG K (gPair K i j) (tgP i j) := by
  intro π Z F B vs H σ p v d σ' Q r hd e k
  cases hd with
  | tup hs ha =>
    cases ha with
    | nil => cases e
    | cons h1 ha =>
      cases ha with
      | nil => cases e
      | cons h2 ha =>
        cases ha with
        | nil =>
          cases e
          exact ⟨_, _, rfl, sq_t r.sub hs, rfl, _, _, rfl, _, _, rfl, rfl, k _ ((r.set i h1).set j h2)⟩
        | cons _ _ => cases e
  | _ => cases e
theorem wipe_get (vs : L2.St) (j : Nat) : ∀ own : List Nat, (wipe vs own)[j]? = if j ∈ own then (vs[j]?).map (fun _ => Option.none) else vs[j]?
  | [] => by simp [wipe]
  | i :: r => by
    unfold wipe
    by_cases h : i = j
    · subst h
      by_cases hl : i < vs.length
      · rw [List.getElem?_set_self (by rw [wipe_length]; exact hl), if_pos List.mem_cons_self, List.getElem?_eq_getElem hl]
        rfl
      · rw [List.getElem?_eq_none (by rw [List.length_set, wipe_length]; omega), if_pos List.mem_cons_self, List.getElem?_eq_none (by omega)]
        rfl
    · rw [List.getElem?_set_ne h, wipe_get vs j r]
      by_cases hm : j ∈ r
      · rw [if_pos hm, if_pos (List.mem_cons_of_mem _ hm)]
      · rw [if_neg hm, if_neg (by simp only [List.mem_cons, not_or]; exact ⟨fun e => h e.symm, hm⟩)]
theorem wipe_set {vs : L2.St} {i : Nat} {x : Option V} {own : List Nat} (h : i ∈ own) : wipe (vs.set i x) own = wipe vs own := by
  apply List.ext_getElem?
  intro j
  rw [wipe_get, wipe_get]
  by_cases hj : j ∈ own
  · rw [if_pos hj, if_pos hj, List.getElem?_set]
    by_cases e : i = j
    · subst e
      by_cases hl : i < vs.length
      · rw [if_pos rfl, if_pos hl, List.getElem?_eq_getElem hl]; rfl
      · rw [if_pos rfl, if_neg hl, List.getElem?_eq_none (by omega)]
    · rw [if_neg e]
  · rw [if_neg hj, if_neg hj, List.getElem?_set_ne (show i ≠ j from fun e => hj (by rw [← e]; exact h))]
theorem sem_gNc {K : PySem.W.Frag} {i : Nat} {own : List Nat} (h : i ∈ own) : SemGc K own (gName i) (tgN i) := by
  intro π Z F B vs H σ p v d σ' Q r hd e k
  cases e
  exact k _ (r.set i hd) (wipe_set h) fun j hj => ⟨List.getElem?_set_ne (show i ≠ j from fun e => hj (by rw [← e]; exact h)), List.getElem?_set_ne (show i ≠ j from fun e => hj (by rw [← e]; exact h))⟩
theorem sem_gPc {K : PySem.W.Frag} {i j : Nat} {own : List Nat} (h : i ∈ own) (h' : j ∈ own) : SemGc K own (gPair K i j) (tgP i j) := by
  intro π Z F B vs H σ p v d σ' Q r hd e k
  cases hd with
  | tup hs ha =>
    cases ha with
    | nil => cases e
    | cons h1 ha =>
      cases ha with
      | nil => cases e
      | cons h2 ha =>
        cases ha with
        | nil =>
          cases e
          refine ⟨_, _, rfl, sq_t r.sub hs, rfl, _, _, rfl, _, _, rfl, rfl, k _ ((r.set i h1).set j h2) ((wipe_set h').trans (wipe_set h)) fun l hl => ?_⟩
          have n1 : i ≠ l := fun e => hl (by rw [← e]; exact h)
          have n2 : j ≠ l := fun e => hl (by rw [← e]; exact h')
          exact ⟨by rw [List.getElem?_set_ne n2, List.getElem?_set_ne n1], by rw [List.getElem?_set_ne n2, List.getElem?_set_ne n1]⟩
        | cons _ _ => cases e
  | _ => cases e
structure FG (S : Sta) (N : List Str) (sc : Scope) (tg : Expr) (τ : D → Sg → Option Sg) : Prop where
  ex : ∃ g, (∀ X, Fam1 S N sc X → PG X tg g) ∧ SemG S.K g τ
structure FGc (S : Sta) (N : List Str) (sc scope : Scope) (own : List Nat) (tg : Expr) (τ : D → Sg → Option Sg) : Prop where
  ex : ∃ g, (∀ X, Fam S N sc X → ∀ (s : Shared) (H : Hp) (C : Addr) (cl : List (Str × Addr)) (fp : List Addr), PG (X.blk s H scope (compEnvC scope cl C X.env) fp) tg g) ∧ SemGc S.K own g τ
theorem fg_n {x : Str} (i : Nat) (hi : N[i]? = some x := by rfl) (hx : Loc sc x := by first | exact Or.inl rfl | exact Or.inr rfl) : FG S N sc (.Name x pos) (tgN i) := by
  refine ⟨_, fun X hX => ?_, sem_gN⟩
  obtain ⟨⟨nd, s0, H0, env, outer, stack, ex, fn, pn, hs', e⟩, hf⟩ := hX
  subst e
  exact pg_name nd hi (by show Loc env.scope x; rw [hs']; exact hx) (.inl (hf x))
theorem fg_p {x y : Str} {p1 p2 : Pos} {k} (i j : Nat) (hi : N[i]? = some x := by rfl) (hj : N[j]? = some y := by rfl) (hx : Loc sc x := by first | exact Or.inl rfl | exact Or.inr rfl)
    (hy : Loc sc y := by first | exact Or.inl rfl | exact Or.inr rfl) : FG S N sc (.Tuple [.Name x p1, .Name y p2] k pos) (tgP i j) := by
  refine ⟨gPair S.K i j, fun X hX => ?_, sem_gP⟩
  obtain ⟨⟨nd, s0, H0, env, outer, stack, ex, fn, pn, hs', e⟩, hf⟩ := hX
  subst e
  exact pg_tup rfl (pgs_cons (pg_name nd hi (by show Loc env.scope x; rw [hs']; exact hx) (.inl (hf x))) (pgs_cons (pg_name nd hj (by show Loc env.scope y; rw [hs']; exact hy) (.inl (hf y))) pgs_nil))
theorem relabel_fam {X : Cx} (hX : Fam S N sc X) (scope : Scope) : relabel scope X.env = relS scope sc := by
  obtain ⟨_, s0, H0, env, outer, stack, ex, fn, pn, hs, e⟩ := hX
  subst e
  show relabel scope env = _
  unfold relabel relS Env.kindOf
  rw [hs]
theorem fgc_n {x : Str} {scope : Scope} {own : List Nat} (i : Nat) (ho : i ∈ own := by decide) (hi : N[i]? = some x := by rfl) (hx : Loc (relS scope sc) x := by first | exact Or.inl rfl | exact Or.inr rfl)
    (hf : scope.names.lookup x = some .cell ∨ (relS scope sc).names.lookup x = some .local := by first | exact Or.inl rfl | exact Or.inr rfl) : FGc S N sc scope own (.Name x pos) (tgN i) := by
  refine ⟨_, fun X hX s H C cl fp => ?_, sem_gNc ho⟩
  have e := relabel_fam hX scope
  obtain ⟨nd, s0, H0, env, outer, stack, ex, fn, pn, hs, eX⟩ := hX
  subst eX
  refine pg_name nd hi (by show Loc (relabel scope env) x; rw [e]; exact hx) ?_
  rcases hf with hf | hf
  · left
    show (scope.names.lookup x == some .cell) = true
    rw [hf]; rfl
  · right
    show (relabel scope env).names.lookup x = _
    rw [e]; exact hf
theorem fgc_p {x y : Str} {p1 p2 : Pos} {k} {scope : Scope} {own : List Nat} (i j : Nat) (ho : i ∈ own := by decide) (ho' : j ∈ own := by decide) (hi : N[i]? = some x := by rfl) (hj : N[j]? = some y := by rfl)
    (hx : Loc (relS scope sc) x := by first | exact Or.inl rfl | exact Or.inr rfl) (hy : Loc (relS scope sc) y := by first | exact Or.inl rfl | exact Or.inr rfl)
    (hf : scope.names.lookup x = some .cell ∨ (relS scope sc).names.lookup x = some .local := by first | exact Or.inl rfl | exact Or.inr rfl)
    (hf' : scope.names.lookup y = some .cell ∨ (relS scope sc).names.lookup y = some .local := by first | exact Or.inl rfl | exact Or.inr rfl) : FGc S N sc scope own (.Tuple [.Name x p1, .Name y p2] k pos) (tgP i j) := by
  refine ⟨gPair S.K i j, fun X hX s H C cl fp => ?_, sem_gPc ho ho'⟩
  have e := relabel_fam hX scope
  obtain ⟨nd, s0, H0, env, outer, stack, ex, fn, pn, hs, eX⟩ := hX
  subst eX
  have go : ∀ z : Str, (scope.names.lookup z = some .cell ∨ (relS scope sc).names.lookup z = some .local) → (scope.names.lookup z == some .cell) = true ∨ (relabel scope env).names.lookup z = some .local := fun z h => by
    rcases h with h | h
    · left; rw [h]; rfl
    · right; rw [e]; exact h
  exact pg_tup rfl (pgs_cons (pg_name nd hi (by show Loc (relabel scope env) x; rw [e]; exact hx) (go x hf)) (pgs_cons (pg_name nd hj (by show Loc (relabel scope env) y; rw [e]; exact hy) (go y hf')) pgs_nil))
end
end FL

namespace FL
open PySem PySem.Spec PyProof.Rows L2

section
variable {π : Type} {Z : PotK π} {S : Sta} {N : List Str} {sc : Scope} {e a b tg : Expr} {es elts : List Expr} {pos : Pos} {α β : SE π} {φ : SB π} {ω : SL π} {ψ : SS π}

/-! ### for -/
def sLoop (τ : D → Sg → Option Sg) (ψ : SS π) : List D → Sg → π → Option (Out π)
  | [], σ, p => some (.nx σ p)
  | d :: r, σ, p => match τ d σ with
    | none => none
    | some σ1 => match ψ σ1 p with
      | some (.nx σ2 p2) => sLoop τ ψ r σ2 p2
      | some (.ct σ2 p2) => sLoop τ ψ r σ2 p2
      | some (.bk σ2 p2) => some (.nx σ2 p2)
      | some (.rt d p2) => some (.rt d p2)
      | none => none
def sFor (ω : SL π) (τ : D → Sg → Option Sg) (ψ : SS π) : SS π := fun σ p => (ω σ p).bind fun x => sLoop τ ψ x.1 σ x.2
theorem sem_for {K : PySem.W.Frag} {wi : TI} {g : TG} {tb : TS} {τ : D → Sg → Option Sg} (hi : SemI K Z wi ω) (hg : SemG K g τ) (hb : SemS K Z tb ψ) : SemS K Z (tFor wi g tb) (sFor ω τ ψ) := by
  intro F B vs H σ p o E r e k
  obtain ⟨⟨ds, p1⟩, e1, e⟩ := bnd e
  refine hi F B vs H σ p ds p1 _ r e1 fun J H1 B1 s1 r1 hJ => ?_
  refine ⟨fun i m vs H => m = ds.length - i ∧ i ≤ ds.length ∧ ∃ B2 σ p, Same B1 B2 ∧ Rep K Z F B2 vs H σ p ∧ sLoop τ ψ (ds.drop i) σ p = some o,
    ⟨_, rfl, Nat.zero_le _, B1, σ, p1, Same.refl B1, r1, e⟩, ?_⟩
  rintro i m vs2 H2 ⟨rfl, hi, B2, σ2, p2, s2, r2, e2⟩
  by_cases hlt : i < ds.length
  · refine .inr ⟨hJ.go i H2 (s2.trans r2.sub) hlt, fun vs H => ∃ B3 σ p, Same B1 B3 ∧ Rep K Z F B3 vs H σ p ∧ sLoop τ ψ (ds.drop (i + 1)) σ p = some o,
      fun vs3 H3 ⟨B3, σ3, p3, s3, r3, e3⟩ => ⟨_, by omega, rfl, hlt, B3, σ3, p3, s3, r3, e3⟩, fun x H3 y => ?_⟩
    obtain ⟨B3, gr, dx⟩ := hJ.yld i H2 x H3 ds[i] (s2.trans r2.sub) y (List.getElem?_eq_getElem hlt) B2 s2 r2.sub
    rw [List.drop_eq_getElem_cons hlt] at e2
    have e2 : (match τ ds[i] σ2 with
      | none => none
      | some σ1 => match ψ σ1 p2 with
        | some (.nx σ2 p2) => sLoop τ ψ (ds.drop (i + 1)) σ2 p2
        | some (.ct σ2 p2) => sLoop τ ψ (ds.drop (i + 1)) σ2 p2
        | some (.bk σ2 p2) => some (.nx σ2 p2)
        | some (.rt d p2) => some (.rt d p2)
        | none => none) = some o := e2
    cases c1 : τ ds[i] σ2 with
    | none => rw [c1] at e2; cases e2
    | some σ3 =>
      rw [c1] at e2
      refine hg Z F B3 vs2 H3 σ2 p2 x ds[i] σ3 _ (r2.grow gr) dx c1 fun vs3 r3 => ?_
      cases c2 : ψ σ3 p2 with
      | none => simp only [c2] at e2; cases e2
      | some w =>
        simp only [c2] at e2
        refine hb F B3 vs3 H3 σ3 p2 w _ r3 c2 ?_
        have s3 := s2.trans gr.b
        cases w with
        | nx σ4 p4 => exact fun vs' H' B' s' r' => ⟨B', σ4, p4, s3.trans s', r', e2⟩
        | ct σ4 p4 => exact fun vs' H' B' s' r' => ⟨B', σ4, p4, s3.trans s', r', e2⟩
        | bk σ4 p4 =>
          cases e2
          exact fun vs' H' B' s' r' => k vs' H' B' ((s1.trans s3).trans s') r'
        | rt d p4 =>
          cases e2
          exact fun v vs' H' B' σ' s' r' d' => k v vs' H' B' σ' ((s1.trans s3).trans s') r' d'
  · have ei : i = ds.length := by omega
    subst ei
    rw [List.drop_length] at e2
    cases e2
    exact .inl ⟨hJ.stop _ H2 (s2.trans r2.sub) (Nat.le_refl _), k vs2 H2 B2 (s1.trans s2) r2⟩
theorem fs_for {it : Expr} {body : List Stmt} {τ : D → Sg → Option Sg} (hi : FI S N sc Z tg it ω) (hg : FG S N sc tg τ) (hb : FSs S N sc Z body ψ)
    (hs : ∀ (X : Cx) x, foldedSetIterable it X.env x = pure x := by intro _ _; rfl) : FS S N sc Z (.For tg it body [] pos) (sFor ω τ ψ) := by
  obtain ⟨wi, i1, i2⟩ := hi.ex
  obtain ⟨g, g1, g2⟩ := hg.ex
  obtain ⟨tb, b1, b2⟩ := hb.ex
  refine ⟨tFor wi g tb, fun X hX => ?_, sem_for i2 g2 b2⟩
  have h1 := i1 X hX.1
  have h2 := g1 X hX
  have h3 := b1 X hX
  obtain ⟨⟨nd, s0, H0, env, outer, stack, ex, fn, pn, hs', e⟩, hf⟩ := hX
  subst e
  exact ps_for PassesOwn.never rfl h1 h2 h3 (hs _)

/-! ### while -/
def sWhile (χ : SB π) (ψ : SS π) : Nat → Sg → π → Option (Out π)
  | 0, _, _ => none
  | n + 1, σ, p => (χ σ p).bind fun x => if x.1 = true then (match ψ σ x.2 with
      | some (.nx σ2 p2) => sWhile χ ψ n σ2 p2
      | some (.ct σ2 p2) => sWhile χ ψ n σ2 p2
      | some (.bk σ2 p2) => some (.nx σ2 p2)
      | some (.rt d p2) => some (.rt d p2)
      | none => none) else some (.nx σ x.2)
theorem sem_while {K : PySem.W.Frag} {tc : TT} {tb : TS} (n : Nat) (hc : SemT K Z tc φ) (hb : SemS K Z tb ψ) : SemS K Z (tWhile tc tb) (sWhile φ ψ n) := by
  intro F B vs H σ p o E r e k
  refine ⟨fun m vs H => ∃ B2 σ p, Same B B2 ∧ Rep K Z F B2 vs H σ p ∧ sWhile φ ψ m σ p = some o, ⟨n, B, σ, p, Same.refl B, r, e⟩, ?_⟩
  rintro m vs2 H2 ⟨B2, σ2, p2, s2, r2, e2⟩
  cases m with
  | zero => cases e2
  | succ m =>
    obtain ⟨⟨c, p3⟩, e3, e2⟩ := bnd e2
    refine hc F B2 vs2 H2 σ2 p2 c p3 _ r2 e3 fun H3 B3 s3 r3 => ?_
    cases c with
    | false =>
      cases e2
      exact k vs2 H3 B3 (s2.trans s3) r3
    | true =>
      refine ⟨fun vs H => ∃ B4 σ p, Same B B4 ∧ Rep K Z F B4 vs H σ p ∧ sWhile φ ψ m σ p = some o, fun vs4 H4 h4 => ⟨m, Nat.lt_succ_self m, h4⟩, ?_⟩
      have e2 : (match ψ σ2 p3 with
        | some (.nx σ2 p2) => sWhile φ ψ m σ2 p2
        | some (.ct σ2 p2) => sWhile φ ψ m σ2 p2
        | some (.bk σ2 p2) => some (.nx σ2 p2)
        | some (.rt d p2) => some (.rt d p2)
        | none => none) = some o := e2
      cases c2 : ψ σ2 p3 with
      | none => rw [c2] at e2; cases e2
      | some w =>
        rw [c2] at e2
        refine hb F B3 vs2 H3 σ2 p3 w _ r3 c2 ?_
        have s5 := s2.trans s3
        cases w with
        | nx σ4 p4 => exact fun vs' H' B' s' r' => ⟨B', σ4, p4, s5.trans s', r', e2⟩
        | ct σ4 p4 => exact fun vs' H' B' s' r' => ⟨B', σ4, p4, s5.trans s', r', e2⟩
        | bk σ4 p4 =>
          cases e2
          exact fun vs' H' B' s' r' => k vs' H' B' (s5.trans s') r'
        | rt d p4 =>
          cases e2
          exact fun v vs' H' B' σ' s' r' d' => k v vs' H' B' σ' (s5.trans s') r' d'
theorem fs_while {c : Expr} {body : List Stmt} (n : Nat) (hc : FT S N sc Z c φ) (hb : FSs S N sc Z body ψ) : FS S N sc Z (.While c body [] pos) (sWhile φ ψ n) := by
  obtain ⟨t, c1, c2⟩ := hc.ex
  obtain ⟨tb, b1, b2⟩ := hb.ex
  refine ⟨tWhile t tb, fun X hX => ?_, sem_while n c2 b2⟩
  have h1 := c1 X hX.1
  have h3 := b1 X hX
  obtain ⟨⟨nd, s0, H0, env, outer, stack, ex, fn, pn, hs', e⟩, hf⟩ := hX
  subst e
  exact ps_while PassesOwn.never h1 h3

/-! ### comprehensions -/
def wipeS (σ : Sg) : List Nat → Sg
  | [] => σ
  | i :: r => (wipeS σ r).set i .un
theorem Rep.wipe {K : PySem.W.Frag} {F : Fx} {B : Hp} {vs : L2.St} {H : Hp} {σ : Sg} {p : π} (r : Rep K Z F B vs H σ p) : ∀ own : List Nat, Rep K Z F B (L2.wipe vs own) H (wipeS σ own) p
  | [] => r
  | i :: l => (Rep.wipe r l).drop i none
theorem wipeS_get (σ : Sg) (j : Nat) : ∀ own : List Nat, (j ∉ own → (wipeS σ own)[j]? = σ[j]?) ∧ (j ∈ own → ∀ s, (wipeS σ own)[j]? = some s → s = .un)
  | [] => ⟨fun _ => rfl, fun h => by cases h⟩
  | i :: l => by
    obtain ⟨h1, h2⟩ := wipeS_get σ j l
    unfold wipeS
    refine ⟨fun h => ?_, fun h s e => ?_⟩
    · simp only [List.mem_cons, not_or] at h
      rw [List.getElem?_set_ne (fun q => h.1 q.symm)]
      exact h1 h.2
    · by_cases q : i = j
      · subst q
        by_cases hl : i < (wipeS σ l).length
        · rw [List.getElem?_set_self hl] at e
          cases e; rfl
        · rw [List.getElem?_eq_none (by rw [List.length_set]; omega)] at e
          cases e
      · rw [List.getElem?_set_ne q] at e
        rcases List.mem_cons.mp h with z | z
        · exact absurd z.symm q
        · exact h2 z s e
/-- neither a list of one's own nor the pot stands there -/
def plainAt (σ : Sg) (own : List Nat) : Bool := own.all fun i => match σ[i]? with
  | some (.own _) => false
  | some .pot => false
  | _ => true
theorem plainAt_of {σ : Sg} {own : List Nat} (h : plainAt σ own = true) {j : Nat} (hj : j ∈ own) : (∀ ds, σ[j]? ≠ some (.own ds)) ∧ σ[j]? ≠ some Sl.pot := by
  have h := List.all_eq_true.mp h j hj
  refine ⟨fun ds e => ?_, fun e => ?_⟩
  · rw [e] at h; cases h
  · rw [e] at h; cases h
def lcGo (own : List Nat) (τ : D → Sg → Option Sg) (χ : SB π) (α : SE π) : List D → Sg → π → Option (List D × π)
  | [], _, p => some ([], p)
  | d :: r, σ, p => match τ d (wipeS σ own) with
    | none => none
    | some σ1 => (χ σ1 p).bind fun c => if c.1 = true then (α σ1 c.2).bind fun y => (lcGo own τ χ α r σ y.2).map fun z => (y.1 :: z.1, z.2) else lcGo own τ χ α r σ c.2
def lComp (own : List Nat) (ω : SL π) (τ : D → Sg → Option Sg) (χ : SB π) (α : SE π) : SL π := fun σ p => (ω σ p).bind fun x =>
  if x.1.length ≤ sizeLine ∧ plainAt σ own = true then lcGo own τ χ α x.1 σ x.2 else none
def Fx.with (F : Fx) (a : Addr) (xs : List V) : Fx := ⟨F.pa, F.g, fun b => F.N b ∨ b = a, upd F.H0 a (.lst xs)⟩
theorem NewL.go {K : PySem.W.Frag} {F : Fx} {B : Hp} {vs : L2.St} {H : Hp} {σ : Sg} {p : π} {a : Addr} {ds : List D} (n : NewL K Z F B vs H σ p a ds) {xs : List V} (h : H a = some (.lst xs)) : Rep K Z (F.with a xs) B vs H σ p where
  sub := n.rep.sub
  old := fun b o hb e => by
    by_cases z : b = a
    · subst z
      have e : upd F.H0 b (.lst xs) b = some o := e
      rw [upd_same] at e; rw [← e]; exact h
    · have e : upd F.H0 a (.lst xs) b = some o := e
      rw [upd_ne z] at e
      exact n.rep.old b o hb e
  pok := n.rep.pok
  potN := fun b hb => .inl (n.rep.potN b hb)
  noB := fun b hb => by
    rcases hb with hb | hb
    · exact n.rep.noB b hb
    · rw [hb]; exact n.nB
  noH := fun b hb => by
    rcases hb with hb | hb
    · exact n.rep.noH b hb
    · rw [hb, h]; simp
  len := n.rep.len
  val := n.rep.val
  own := fun i es e => by
    obtain ⟨b, ys, h1, h2, h3, h4, h5, h6⟩ := n.rep.own i es e
    have ne : b ≠ a := fun z => n.nS i es e (by rw [← z]; exact h1)
    refine ⟨b, ys, h1, h2, h3, h4, ?_, fun z => z.elim h6 ne⟩
    show upd F.H0 a (.lst xs) b = none
    rw [upd_ne ne]; exact h5
  pot := n.rep.pot
  apart := n.rep.apart
theorem NewL.come {K : PySem.W.Frag} {F : Fx} {B : Hp} {vs : L2.St} {H : Hp} {σ : Sg} {p : π} {a : Addr} {xs : List V} {ds : List D} (r : Rep K Z (F.with a xs) B vs H σ p)
    (n0 : F.H0 a = none) (nN : ¬ F.N a) (hp : ∀ b ∈ Z.fp F.pa F.g, F.N b) (d : DqAll K B xs ds) : NewL K Z F B vs H σ p a ds where
  rep := {
    sub := r.sub
    old := fun b o hb e => by
      refine r.old b o hb ?_
      show upd F.H0 a (.lst xs) b = some o
      rw [upd_ne (ne_of_none e n0)]; exact e
    pok := r.pok
    potN := hp
    noB := fun b hb => r.noB b (.inl hb)
    noH := fun b hb => r.noH b (.inl hb)
    len := r.len
    val := r.val
    own := fun i es e => by
      obtain ⟨b, ys, h1, h2, h3, h4, h5, h6⟩ := r.own i es e
      refine ⟨b, ys, h1, h2, h3, h4, ?_, fun z => h6 (.inl z)⟩
      have ne : b ≠ a := fun z => h6 (.inr z)
      have h5 : upd F.H0 a (.lst xs) b = none := h5
      rw [upd_ne ne] at h5; exact h5
    pot := r.pot
    apart := r.apart }
  is := ⟨xs, r.old a _ (fun z => nN (hp a z)) (show upd F.H0 a (.lst xs) a = _ from upd_same), d⟩
  nB := r.noB a (.inr rfl)
  n0 := n0
  nN := nN
  nS := fun i es e q => by
    obtain ⟨b, ys, h1, h2, h3, h4, h5, h6⟩ := r.own i es e
    rw [q] at h1
    cases h1
    exact h6 (.inr rfl)
/-- the new list is written -/
theorem NewL.put {K : PySem.W.Frag} {F : Fx} {B : Hp} {vs : L2.St} {H : Hp} {σ : Sg} {p : π} {a : Addr} {ds es : List D} {ys : List V} (n : NewL K Z F B vs H σ p a ds) (d : DqAll K B ys es) : NewL K Z F B vs (upd H a (.lst ys)) σ p a es where
  rep := {
    sub := fun b o e => by rw [upd_ne (ne_of_none e n.nB)]; exact n.rep.sub b o e
    old := fun b o hb e => by rw [upd_ne (ne_of_none e n.n0)]; exact n.rep.old b o hb e
    pok := Z.loc F.pa F.g H _ p (fun b hb => upd_ne (show b ≠ a from fun z => n.nN (by rw [← z]; exact n.rep.potN b hb))) n.rep.pok
    potN := n.rep.potN
    noB := n.rep.noB
    noH := fun b hb => by rw [upd_ne (show b ≠ a from fun z => n.nN (by rw [← z]; exact hb))]; exact n.rep.noH b hb
    len := n.rep.len
    val := n.rep.val
    own := fun i fs e => by
      obtain ⟨b, zs, h1, h2, h3⟩ := n.rep.own i fs e
      refine ⟨b, zs, h1, ?_, h3⟩
      rw [upd_ne (show b ≠ a from fun z => n.nS i fs e (by rw [← z]; exact h1))]; exact h2
    pot := n.rep.pot
    apart := n.rep.apart }
  is := ⟨ys, upd_same, d⟩
  nB := n.nB
  n0 := n.n0
  nN := n.nN
  nS := n.nS
theorem wipe_idem (vs : L2.St) (own : List Nat) : L2.wipe (L2.wipe vs own) own = L2.wipe vs own := by
  apply List.ext_getElem?
  intro j
  rw [wipe_get, wipe_get]
  by_cases h : j ∈ own
  · simp only [if_pos h]
    cases vs[j]? <;> rfl
  · simp only [if_neg h]
theorem sem_lc {K : PySem.W.Frag} {wi : TI} {g : TG} {tt : TT} {te : TE} {τ : D → Sg → Option Sg} {own : List Nat} (hi : SemI K Z wi ω) (hg : SemGc K own g τ) (ht : SemT K Z tt φ) (he : SemE K Z te α) : SemL K Z (tLc wi g tt te own) (lComp own ω τ φ α) := by
  intro F B vs H σ p ds p' Q r e k
  obtain ⟨⟨xs, p1⟩, e1, e⟩ := bnd e
  have e : (if xs.length ≤ sizeLine ∧ plainAt σ own = true then lcGo own τ φ α xs σ p1 else none) = some (ds, p') := e
  split at e
  · rename_i hc
    obtain ⟨hz, hpl⟩ := hc
    refine hi F B vs H σ p xs p1 _ r e1 fun J H1 B1 s1 r1 hJ => fun L hL => ?_
    have hbk : ∀ i : Nat, ((wipeS σ own)[i]? = σ[i]? ∧ (L2.wipe vs own)[i]? = vs[i]?) ∨ ((∀ ds, σ[i]? ≠ some (.own ds)) ∧ σ[i]? ≠ some Sl.pot) := fun i => by
      by_cases hi : i ∈ own
      · exact .inr (plainAt_of hpl hi)
      · exact .inl ⟨(wipeS_get σ i own).1 hi, by rw [wipe_get, if_neg hi]⟩
    have rw1 := r1.wipe own
    have n0 : NewL K Z F B1 (L2.wipe vs own) (upd H1 L (.lst [])) (wipeS σ own) p1 L [] := newL_of rw1 (Gr.lay r1.sub hL) hL (r1.sub.free hL) upd_same .nil
    refine ⟨fun i m H => m = xs.length - i ∧ i ≤ xs.length ∧ ∃ B2 p acc rest, Same B1 B2 ∧ NewL K Z F B2 (L2.wipe vs own) H (wipeS σ own) p L acc ∧ acc.length ≤ i ∧ lcGo own τ φ α (xs.drop i) σ p = some (rest, p') ∧ acc ++ rest = ds,
      ⟨_, rfl, Nat.zero_le _, B1, p1, [], ds, Same.refl B1, n0, Nat.zero_le _, e, rfl⟩, ?_⟩
    rintro i m H2 ⟨rfl, hi2, B2, p2, acc, rest, s2, n2, ha2, e2, ed⟩
    by_cases hlt : i < xs.length
    · refine .inr ⟨hJ.go i H2 (s2.trans n2.rep.sub) hlt, fun H => ∃ B3 p acc rest, Same B1 B3 ∧ NewL K Z F B3 (L2.wipe vs own) H (wipeS σ own) p L acc ∧ acc.length ≤ i + 1 ∧ lcGo own τ φ α (xs.drop (i + 1)) σ p = some (rest, p') ∧ acc ++ rest = ds,
        fun H3 ⟨B3, p3, acc3, rest3, h3⟩ => ⟨_, by omega, rfl, hlt, B3, p3, acc3, rest3, h3⟩, fun x H3 y => ?_⟩
      obtain ⟨B3, gr, dx⟩ := hJ.yld i H2 x H3 xs[i] (s2.trans n2.rep.sub) y (List.getElem?_eq_getElem hlt) B2 s2 n2.rep.sub
      rw [List.drop_eq_getElem_cons hlt] at e2
      obtain ⟨ys, g1, g2⟩ := n2.is
      -- the new list stands as a thing of the entry
      have R3 : Rep K Z (F.with L ys) B3 (L2.wipe vs own) H3 (wipeS σ own) p2 := (n2.go g1).grow gr
      have dys : DqAll K B3 ys acc := DqA_up gr.b acc ys g2
      have e2 : (match τ xs[i] (wipeS σ own) with
        | none => none
        | some σ1 => (φ σ1 p2).bind fun c => if c.1 = true then (α σ1 c.2).bind fun y => (lcGo own τ φ α (xs.drop (i + 1)) σ y.2).map fun z => (y.1 :: z.1, z.2) else lcGo own τ φ α (xs.drop (i + 1)) σ c.2) = some (rest, p') := e2
      cases c1 : τ xs[i] (wipeS σ own) with
      | none => rw [c1] at e2; cases e2
      | some σ3 =>
        rw [c1] at e2
        refine hg Z (F.with L ys) B3 _ H3 (wipeS σ own) p2 x xs[i] σ3 _ R3 dx c1 fun vs3 r3 ew hj => ⟨by rw [ew, wipe_idem], ?_⟩
        obtain ⟨⟨c, p3⟩, e3, e2⟩ := bnd e2
        refine ht (F.with L ys) B3 vs3 H3 σ3 p2 c p3 _ r3 e3 fun H4 B4 s4 r4 => ?_
        have hback : ∀ {B5 : Hp} {H5 : Hp} {p5 : π}, Same B3 B5 → Rep K Z (F.with L ys) B5 vs3 H5 σ3 p5 → Rep K Z (F.with L ys) B5 (L2.wipe vs own) H5 (wipeS σ own) p5 := fun {B5 H5 p5} s5 r5 =>
          r5.back R3 s5 fun j => by
            by_cases hj2 : j ∈ own
            · right
              have q := (wipeS_get σ j own).2 hj2
              exact ⟨fun ds e => (by have := q _ e; cases this), fun e => (by have := q _ e; cases this)⟩
            · exact .inl (hj j hj2)
        have hN : ¬ F.N L := n2.nN
        have h0 : F.H0 L = none := n2.n0
        cases c with
        | true =>
          rw [if_pos rfl]
          have e2 : ((α σ3 p3).bind fun y => (lcGo own τ φ α (xs.drop (i + 1)) σ y.2).map fun z => (y.1 :: z.1, z.2)) = some (rest, p') := e2
          obtain ⟨⟨w, p4⟩, e4, e2⟩ := bnd e2
          obtain ⟨⟨rest', p5⟩, e5, e6⟩ := mpd e2
          refine he (F.with L ys) B4 vs3 H4 σ3 p3 w p4 _ r4 e4 fun v H5 B5 s5 r5 dv => ?_
          have s35 := s4.trans s5
          have n5 : NewL K Z F B5 (L2.wipe vs own) H5 (wipeS σ own) p4 L acc := NewL.come (hback s35 r5) h0 hN n2.rep.potN (DqA_up s35 acc ys dys)
          have hL5 : H5 L = some (.lst ys) := r5.old L _ (fun z => hN (n2.rep.potN L z)) (show upd F.H0 L (.lst ys) L = _ from upd_same)
          have el : ys.length = acc.length := DqAll.len dys
          have ep : p5 = p' := congrArg Prod.snd e6
          have er : w :: rest' = rest := congrArg Prod.fst e6
          refine ⟨ys, hL5, by omega, B5, p4, acc ++ [w], rest', (s2.trans gr.b).trans s35, n5.put (DqAll.app (DqA_up s35 acc ys dys) (.cons dv .nil)), by rw [List.length_append, List.length_singleton]; omega, by rw [← ep]; exact e5, ?_⟩
          rw [List.append_assoc, List.singleton_append, er]; exact ed
        | false =>
          rw [if_neg Bool.false_ne_true]
          have e2 : lcGo own τ φ α (xs.drop (i + 1)) σ p3 = some (rest, p') := e2
          exact ⟨B4, p3, acc, rest, (s2.trans gr.b).trans s4, NewL.come (hback s4 r4) h0 hN n2.rep.potN (DqA_up s4 acc ys dys), by omega, e2, ed⟩
    · have ei : i = xs.length := by omega
      subst ei
      rw [List.drop_length] at e2
      cases e2
      rw [List.append_nil] at ed
      subst ed
      refine .inl ⟨hJ.stop _ H2 (s2.trans n2.rep.sub) (Nat.le_refl _), k L H2 B2 (s1.trans s2) ?_⟩
      exact ⟨n2.rep.back r1 s2 hbk, n2.is, n2.nB, n2.n0, n2.nN, fun j es ej q => by
        rcases hbk j with ⟨q1, q2⟩ | ⟨q1, _⟩
        · exact n2.nS j es (q1.trans ej) (q2.trans q)
        · exact q1 es ej⟩
  · cases e
end
end FL

namespace FL
open PySem PySem.Spec PyProof.Rows L2

/-! ### rules by what a function says of data -/
def O2 (K : PySem.W.Frag) (f : D → D → Option D) : R2 := fun x y H Q => ∃ B d e z, Same B H ∧ Dq K B x d ∧ Dq K B y e ∧ f d e = some z ∧ ∀ v H' B', Gr B H B' H' → Dq K B' v z → Q v H'
def O1 (K : PySem.W.Frag) (f : D → Option D) : V → Hp → VK → Prop := fun x H Q => ∃ B d z, Same B H ∧ Dq K B x d ∧ f d = some z ∧ ∀ v H' B', Gr B H B' H' → Dq K B' v z → Q v H'
def ON (K : PySem.W.Frag) (f : List D → Option D) : List V → Hp → VK → Prop := fun xs H Q => ∃ B ds z, Same B H ∧ DqAll K B xs ds ∧ f ds = some z ∧ ∀ v H' B', Gr B H B' H' → Dq K B' v z → Q v H'
def ONL (K : PySem.W.Frag) (f : List D → Option (List D)) : List V → Hp → VK → Prop := fun xs H Q => ∃ B ds z, Same B H ∧ DqAll K B xs ds ∧ f ds = some z ∧
  ∀ a ys H' B', Gr B H B' H' → H a = none → B' a = none → H' a = some (.lst ys) → DqAll K B' ys z → Q (.ref a) H'
def O2L (K : PySem.W.Frag) (f : D → D → Option (List D)) : R2 := fun x y H Q => ∃ B d e z, Same B H ∧ Dq K B x d ∧ Dq K B y e ∧ f d e = some z ∧
  ∀ a ys H' B', Gr B H B' H' → H a = none → B' a = none → H' a = some (.lst ys) → DqAll K B' ys z → Q (.ref a) H'
theorem v_O2 {K : PySem.W.Frag} {f : D → D → Option D} : Val2 K (O2 K f) f := fun B H x y d e z Q s hx hy hz k => ⟨B, d, e, z, s, hx, hy, hz, k⟩
theorem v_O1 {K : PySem.W.Frag} {f : D → Option D} : Val1 K (O1 K f) f := fun B H x d z Q s hx hz k => ⟨B, d, z, s, hx, hz, k⟩
theorem v_ON {K : PySem.W.Frag} {f : List D → Option D} : ValN K (ON K f) f := fun B H xs ds z Q s hx hz k => ⟨B, ds, z, s, hx, hz, k⟩
theorem v_ONL {K : PySem.W.Frag} {f : List D → Option (List D)} : ValNL K (ONL K f) f := fun B H xs ds z Q s hx hz k => ⟨B, ds, z, s, hx, hz, k⟩
theorem v_O2L {K : PySem.W.Frag} {f : D → D → Option (List D)} : Val2L K (O2L K f) f := fun B H x y d e z Q s hx hy hz k => ⟨B, d, e, z, s, hx, hy, hz, k⟩

/-! ### the functions -/
def fAdd : D → D → Option D
  | .int i, .int j => some (.int (i + j))
  | .str x, .str y => if x.length + y.length ≤ sizeLine then some (.str (x ++ y)) else none
  | .tuple xs, .tuple ys => if xs.length + ys.length ≤ sizeLine then some (.tuple (xs ++ ys)) else none
  | _, _ => none
def fSub : D → D → Option D
  | .int i, .int j => some (.int (i - j))
  | _, _ => none
def mulOk (i j : Int) : Bool := decide (i.natAbs < 2 ^ 64) || decide (j.natAbs < 2 ^ 64) || decide (i.natAbs.log2 + j.natAbs.log2 < 1000000)
def fMul : D → D → Option D
  | .int i, .int j => if mulOk i j = true then some (.int (i * j)) else none
  | _, _ => none
def divOk (j : Int) : Bool := decide (j ≠ 0) && (decide (j.natAbs < 1073741824) || decide (j.natAbs.log2 < 9000))
def fDiv : D → D → Option D
  | .int i, .int j => if divOk j = true then some (.int (i.fdiv j)) else none
  | _, _ => none
def fMod : D → D → Option D
  | .int i, .int j => if j = 0 then none else some (.int (i.fmod j))
  | _, _ => none
def powOk (i j : Int) : Bool := decide (0 ≤ j) && decide (j ≤ 1000000) && decide (i.natAbs < 2 ^ 64)
def fPow : D → D → Option D
  | .int i, .int j => if powOk i j = true then some (.int (i ^ j.toNat)) else none
  | _, _ => none
def fShl : D → D → Option D
  | .int i, .int j => if powOk i j = true then some (.int (i * 2 ^ j.toNat)) else none
  | _, _ => none
def fShr : D → D → Option D
  | .int i, .int j => if 0 ≤ j then some (.int (i / 2 ^ j.toNat)) else none
  | _, _ => none
def fAnd : D → D → Option D
  | .int i, .int j => some (.int (Builtin.bitAnd i j))
  | _, _ => none
def fOr : D → D → Option D
  | .int i, .int j => some (.int (Builtin.bitOr i j))
  | _, _ => none
def fNeg : D → Option D
  | .int i => some (.int (-i))
  | _ => none
def fInv : D → Option D
  | .int i => some (.int (Builtin.bitNot i))
  | _ => none
def eqD : D → D → Option Bool
  | .str x, .str y => some (decide (x = y))
  | d, e => if SeqAt.shaped d && SeqAt.shaped e then some (PyData.eqv d e) else none
def fEq (d e : D) : Option D := (eqD d e).map .bool
def fNe (d e : D) : Option D := (eqD d e).map fun b => .bool (!b)
def isNon : D → Bool
  | .none => true
  | _ => false
def ltOk (d e : D) : Bool := PySem.W.alike d e && !isNon d && decide (d.depth ≤ 64)
def fLt (d e : D) : Option D := match d, e with
  | .int i, .int j => some (.bool (decide (i < j)))
  | d, e => if ltOk d e = true then some (.bool (PySem.W.dataLt d e)) else none
def fGt (d e : D) : Option D := match d, e with
  | .int i, .int j => some (.bool (decide (j < i)))
  | d, e => if ltOk d e = true then some (.bool (PySem.W.dataLt e d)) else none
def fLe (d e : D) : Option D := match d, e with
  | .int i, .int j => some (.bool (decide (i ≤ j)))
  | d, e => if ltOk d e = true then some (.bool (!PySem.W.dataLt e d)) else none
def fGe (d e : D) : Option D := match d, e with
  | .int i, .int j => some (.bool (decide (j ≤ i)))
  | d, e => if ltOk d e = true then some (.bool (!PySem.W.dataLt d e)) else none
def isIn (d e : D) : Option Bool := (items e).bind fun ds => if SeqAt.shaped d && SeqAt.shaped e then some (ds.any fun z => PyData.eqv z d) else none
def fIn (d e : D) : Option D := (isIn d e).map .bool
def fNin (d e : D) : Option D := (isIn d e).map fun b => .bool (!b)
def fIs (d e : D) : Option D := match e with
  | .none => some (.bool (match d with
    | .none => true
    | _ => false))
  | _ => none
def fIsn (d e : D) : Option D := match e with
  | .none => some (.bool (match d with
    | .none => false
    | _ => true))
  | _ => none
def fIx : D → D → Option D
  | .list ds, .int i => atI ds i
  | .tuple ds, .int i => atI ds i
  | .str z, .int i => if z.length ≤ sizeLine then (atI z.cps.toList i).map fun c => .str ⟨#[c]⟩ else none
  | _, _ => none

section
variable {X : Cx}
theorem o_add : OpR X (binaryOp .Add) (O2 X.K fAdd) := by
  intro pins s σ H x y v u Q I rx ry ⟨B, d, e, z, sb, hx, hy, hf, k⟩
  unfold fAdd at hf
  split at hf
  · cases hf; cases hx; cases hy
    exact op_add pins s σ H _ _ v u Q I rx ry ⟨_, _, rfl, rfl, k _ H B (Gr.refl sb) (.int _)⟩
  · split at hf
    · rename_i hl
      cases hf; cases hx; cases hy
      exact op_add_str pins s σ H _ _ v u Q I rx ry ⟨_, _, rfl, rfl, hl, k _ H B (Gr.refl sb) (.str _)⟩
    · cases hf
  · split at hf
    · rename_i ds es hl
      cases hf
      cases hx with
      | tup h1 h2 =>
        cases hy with
        | tup g1 g2 =>
          refine op_catA pins s σ H _ _ v u Q I rx ry ⟨_, _, _, _, rfl, rfl, sq_t sb h1, sq_t sb g1, by rw [DqAll.len h2, DqAll.len g2]; exact hl, fun e0 => ?_, fun _ e0 => ?_, fun _ _ p hp => ?_⟩
          · have : ds = [] := List.eq_nil_of_length_eq_zero (by rw [← DqAll.len h2, e0]; rfl)
            subst this
            exact k _ H B (Gr.refl sb) (.tup g1 g2)
          · have : es = [] := List.eq_nil_of_length_eq_zero (by rw [← DqAll.len g2, e0]; rfl)
            subst this
            rw [List.append_nil] at k
            exact k _ H B (Gr.refl sb) (.tup h1 h2)
          · refine k _ _ _ (Gr.new sb hp) (.tup (SqT.of upd_same) ?_)
            have s1 := fun (o : HO) => Same.put (o := o) (sb.free hp)
            exact DqAll.app (DqA_up (s1 _) _ _ h2) (DqA_up (s1 _) _ _ g2)
    · cases hf
  · cases hf
theorem o_int {op : Operator} {f : D → D → Option D} {C : Int → Int → Prop} {g : Int → Int → V} (h : OpR X (binaryOp op) (rI C g)) (hf : ∀ d e z, f d e = some z → ∃ i j k, d = .int i ∧ e = .int j ∧ z = .int k ∧ C i j ∧ g i j = .int k) : OpR X (binaryOp op) (O2 X.K f) := by
  intro pins s σ H x y v u Q I rx ry ⟨B, d, e, z, sb, hx, hy, hz, k⟩
  obtain ⟨i, j, l, rfl, rfl, rfl, hc, hg⟩ := hf d e z hz
  cases hx; cases hy
  exact h pins s σ H _ _ v u Q I rx ry ⟨i, j, rfl, rfl, hc, by rw [hg]; exact k _ H B (Gr.refl sb) (.int _)⟩
theorem o_int0 {op : Operator} {f : D → D → Option D} {g : Int → Int → V} (h : OpR X (binaryOp op) (rI0 g)) (hf : ∀ d e z, f d e = some z → ∃ i j k, d = .int i ∧ e = .int j ∧ z = .int k ∧ g i j = .int k) : OpR X (binaryOp op) (O2 X.K f) := by
  intro pins s σ H x y v u Q I rx ry ⟨B, d, e, z, sb, hx, hy, hz, k⟩
  obtain ⟨i, j, l, rfl, rfl, rfl, hg⟩ := hf d e z hz
  cases hx; cases hy
  exact h pins s σ H _ _ v u Q I rx ry ⟨i, j, rfl, rfl, by rw [hg]; exact k _ H B (Gr.refl sb) (.int _)⟩
theorem o_sub : OpR X (binaryOp .Sub) (O2 X.K fSub) := o_int0 op_sub fun d e z h => by
  unfold fSub at h
  split at h
  · cases h; exact ⟨_, _, _, rfl, rfl, rfl, rfl⟩
  · cases h
theorem mulOk_of {i j : Int} (h : mulOk i j = true) : IntMulOk i j := by
  unfold mulOk at h
  simp only [Bool.or_eq_true, decide_eq_true_eq] at h
  rcases h with (h | h) | h
  · exact CMul.ok (.inl (by omega))
  · exact CMul.ok (.inr (by omega))
  · exact CMulW.ok h
theorem o_mul : OpR X (binaryOp .Mult) (O2 X.K fMul) := by
  intro pins s σ H x y v u Q I rx ry ⟨B, d, e, z, sb, hx, hy, hf, k⟩
  unfold fMul at hf
  split at hf
  · split at hf
    · rename_i hc
      cases hf; cases hx; cases hy
      obtain ⟨t, rfl⟩ := rx
      obtain ⟨t', rfl⟩ := ry
      exact mul_int ⟨.int _, H, I.tok _, ⟨_, rfl⟩, k _ H B (Gr.refl sb) (.int _)⟩ (mulOk_of hc)
    · cases hf
  · cases hf
theorem o_div : OpR X (binaryOp .FloorDiv) (O2 X.K fDiv) := by
  intro pins s σ H x y v u Q I rx ry ⟨B, d, e, z, sb, hx, hy, hf, k⟩
  unfold fDiv at hf
  split at hf
  · split at hf
    · rename_i hc
      cases hf; cases hx; cases hy
      obtain ⟨t, rfl⟩ := rx
      obtain ⟨t', rfl⟩ := ry
      unfold divOk at hc
      simp only [Bool.and_eq_true, Bool.or_eq_true, decide_eq_true_eq] at hc
      refine floordiv_int hc.1 ⟨.int _, H, I.tok _, ⟨_, rfl⟩, k _ H B (Gr.refl sb) (.int _)⟩ (.inl ?_)
      rcases hc.2 with h | h
      · exact PyProof.noPylong_small h
      · exact PyProof.noPylong_of_log2 h
    · cases hf
  · cases hf
theorem o_mod : OpR X (binaryOp .Mod) (O2 X.K fMod) := o_int op_modN fun d e z h => by
  unfold fMod at h
  split at h
  · split at h
    · cases h
    · rename_i hj
      cases h; exact ⟨_, _, _, rfl, rfl, rfl, hj, rfl⟩
  · cases h
theorem powOk_of {i j : Int} (h : powOk i j = true) : CPow i j := by
  unfold powOk at h
  simp only [Bool.and_eq_true, decide_eq_true_eq] at h
  exact ⟨h.1.1, h.1.2, h.2⟩
theorem o_pow : OpR X (binaryOp .Pow) (O2 X.K fPow) := o_int op_pow fun d e z h => by
  unfold fPow at h
  split at h
  · split at h
    · rename_i hj
      cases h; exact ⟨_, _, _, rfl, rfl, rfl, powOk_of hj, rfl⟩
    · cases h
  · cases h
theorem o_shl : OpR X (binaryOp .LShift) (O2 X.K fShl) := o_int op_shl fun d e z h => by
  unfold fShl at h
  split at h
  · split at h
    · rename_i hj
      cases h; exact ⟨_, _, _, rfl, rfl, rfl, powOk_of hj, rfl⟩
    · cases h
  · cases h
theorem o_shr : OpR X (binaryOp .RShift) (O2 X.K fShr) := o_int op_shr fun d e z h => by
  unfold fShr at h
  split at h
  · split at h
    · rename_i hj
      cases h; exact ⟨_, _, _, rfl, rfl, rfl, hj, rfl⟩
    · cases h
  · cases h
theorem o_and : OpR X (binaryOp .BitAnd) (O2 X.K fAnd) := o_int0 op_and fun d e z h => by
  unfold fAnd at h
  split at h
  · cases h; exact ⟨_, _, _, rfl, rfl, rfl, rfl⟩
  · cases h
theorem o_or : OpR X (binaryOp .BitOr) (O2 X.K fOr) := o_int0 op_or fun d e z h => by
  unfold fOr at h
  split at h
  · cases h; exact ⟨_, _, _, rfl, rfl, rfl, rfl⟩
  · cases h
theorem u_neg : UnR X (unaryOp .USub) (O1 X.K fNeg) := by
  intro pins s σ H x v Q I rx ⟨B, d, z, sb, hx, hf, k⟩
  unfold fNeg at hf
  split at hf
  · cases hf; cases hx
    exact un_neg pins s σ H _ v Q I rx ⟨_, rfl, k _ H B (Gr.refl sb) (.int _)⟩
  · cases hf
theorem u_inv : UnR X (unaryOp .Invert) (O1 X.K fInv) := by
  intro pins s σ H x v Q I rx ⟨B, d, z, sb, hx, hf, k⟩
  unfold fInv at hf
  split at hf
  · cases hf; cases hx
    exact un_inv pins s σ H _ v Q I rx ⟨_, rfl, k _ H B (Gr.refl sb) (.int _)⟩
  · cases hf
theorem eqD_of {B H : Hp} {x y : V} {d e : D} {b : Bool} (sb : Same B H) (hx : Dq X.K B x d) (hy : Dq X.K B y e) (h : eqD d e = some b) :
    (scal x y = true ∧ b = decide (x = y)) ∨ (Dp X.K H x d ∧ Dp X.K H y e ∧ SeqAt.shaped d = true ∧ SeqAt.shaped e = true ∧ b = PyData.eqv d e) := by
  unfold eqD at h
  split at h
  · cases h; cases hx; cases hy
    refine .inl ⟨rfl, ?_⟩
    rename_i p q
    by_cases z : p = q
    · rw [decide_eq_true z, decide_eq_true (by rw [z])]
    · rw [decide_eq_false z, decide_eq_false (fun w => z (V.str.inj w))]
  · split at h
    · rename_i hc
      cases h
      rw [Bool.and_eq_true] at hc
      exact .inr ⟨Dq.p _ _ (Dq_up sb _ _ hx), Dq.p _ _ (Dq_up sb _ _ hy), hc.1, hc.2, rfl⟩
    · cases h
theorem o_eq (hu : X.A.units + 65 < cLine) : OpR X (compareOp .Eq) (O2 X.K fEq) := by
  intro pins s σ H x y v u Q I rx ry ⟨B, d, e, z, sb, hx, hy, hf, k⟩
  obtain ⟨b, h1, h2⟩ := mpd hf
  subst h2
  rcases eqD_of sb hx hy h1 with ⟨h3, h4⟩ | ⟨h3, h4, h5, h6, h7⟩
  · exact op_eq pins s σ H x y v u Q I rx ry ⟨h3, by rw [← h4]; exact k _ H B (Gr.refl sb) (.bl _)⟩
  · exact op_eqD (by omega) pins s σ H x y v u Q I rx ry ⟨d, e, h3, h4, h5, h6, by rw [← h7]; exact k _ H B (Gr.refl sb) (.bl _)⟩
theorem o_ne (hu : X.A.units + 65 < cLine) : OpR X (compareOp .NotEq) (O2 X.K fNe) := by
  intro pins s σ H x y v u Q I rx ry ⟨B, d, e, z, sb, hx, hy, hf, k⟩
  obtain ⟨b, h1, h2⟩ := mpd hf
  subst h2
  rcases eqD_of sb hx hy h1 with ⟨h3, h4⟩ | ⟨h3, h4, h5, h6, h7⟩
  · exact op_ne pins s σ H x y v u Q I rx ry ⟨h3, by rw [← h4]; exact k _ H B (Gr.refl sb) (.bl _)⟩
  · exact op_neD (by omega) pins s σ H x y v u Q I rx ry ⟨d, e, h3, h4, h5, h6, by rw [← h7]; exact k _ H B (Gr.refl sb) (.bl _)⟩
/-- an order's rule, over the library's -/
theorem o_ord {op : CmpOp} {p : Int → Int → Bool} {lt : D → D → Bool} {f : D → D → Option D} (hu : X.A.units + 65 < cLine) (hi : OpR X (compareOp op) (rI0 fun i j => .bl (p i j)))
    (hl : ∀ (s : Shared) (a b : Value) (da db : D) (as bs : List Addr) (Q : Value → Shared → Prop), Reads s.heap a da as → Reads s.heap b db bs → PySem.W.alike da db = true → da ≠ .none → X.A.units + min da.depth db.depth < cLine → Q (.bool (lt da db)) s → wpAny (model X.prog X.w) X.A (compareOp op a b) Q X.xe s)
    (hf : ∀ d e z, f d e = some z → (∃ i j, d = .int i ∧ e = .int j ∧ z = .bool (p i j)) ∨ (ltOk d e = true ∧ z = .bool (lt d e))) : OpR X (compareOp op) (O2 X.K f) := by
  intro pins s σ H x y v u Q I rx ry ⟨B, d, e, z, sb, hx, hy, hz, k⟩
  rcases hf d e z hz with ⟨i, j, rfl, rfl, rfl⟩ | ⟨ho, rfl⟩
  · cases hx; cases hy
    exact hi pins s σ H _ _ v u Q I rx ry ⟨i, j, rfl, rfl, k _ H B (Gr.refl sb) (.bl _)⟩
  · unfold ltOk at ho
    simp only [Bool.and_eq_true, decide_eq_true_eq] at ho
    have hn : d ≠ .none := fun z => by
      have q := ho.1.2
      rw [z] at q; cases q
    obtain ⟨as, r1⟩ := Dp.reads I d x v (Dq.p _ _ (Dq_up sb _ _ hx)) rx
    obtain ⟨bs, r2⟩ := Dp.reads I e y u (Dq.p _ _ (Dq_up sb _ _ hy)) ry
    have hm : min d.depth e.depth ≤ d.depth := Nat.min_le_left _ _
    exact hl s v u d e as bs _ r1 r2 ho.1.1 hn (by omega) ⟨.bl _, H, I, rfl, k _ H B (Gr.refl sb) (.bl _)⟩
theorem o_lt (hu : X.A.units + 65 < cLine) : OpR X (compareOp .Lt) (O2 X.K fLt) := o_ord (lt := PySem.W.dataLt) hu op_lt (fun s a b da db as bs Q r1 r2 h1 h2 h3 q => PySem.W.lt_data r1 r2 h1 h2 h3 q) fun d e z h => by
  unfold fLt at h
  split at h
  · cases h; exact .inl ⟨_, _, rfl, rfl, rfl⟩
  · split at h
    · rename_i ho
      cases h; exact .inr ⟨ho, rfl⟩
    · cases h
theorem o_gt (hu : X.A.units + 65 < cLine) : OpR X (compareOp .Gt) (O2 X.K fGt) := o_ord (lt := fun d e => PySem.W.dataLt e d) hu op_gt (fun s a b da db as bs Q r1 r2 h1 h2 h3 q => PySem.W.gt_data r1 r2 h1 h2 h3 q) fun d e z h => by
  unfold fGt at h
  split at h
  · cases h; exact .inl ⟨_, _, rfl, rfl, rfl⟩
  · split at h
    · rename_i ho
      cases h; exact .inr ⟨ho, rfl⟩
    · cases h
theorem o_le (hu : X.A.units + 65 < cLine) : OpR X (compareOp .LtE) (O2 X.K fLe) := o_ord (lt := fun d e => !PySem.W.dataLt e d) hu op_le (fun s a b da db as bs Q r1 r2 h1 h2 h3 q => PySem.W.le_data r1 r2 h1 h2 h3 q) fun d e z h => by
  unfold fLe at h
  split at h
  · cases h; exact .inl ⟨_, _, rfl, rfl, rfl⟩
  · split at h
    · rename_i ho
      cases h; exact .inr ⟨ho, rfl⟩
    · cases h
theorem o_ge (hu : X.A.units + 65 < cLine) : OpR X (compareOp .GtE) (O2 X.K fGe) := o_ord (lt := fun d e => !PySem.W.dataLt d e) hu op_ge (fun s a b da db as bs Q r1 r2 h1 h2 h3 q => PySem.W.ge_data r1 r2 h1 h2 h3 q) fun d e z h => by
  unfold fGe at h
  split at h
  · cases h; exact .inl ⟨_, _, rfl, rfl, rfl⟩
  · split at h
    · rename_i ho
      cases h; exact .inr ⟨ho, rfl⟩
    · cases h
theorem isIn_of {d e : D} {b : Bool} (h : isIn d e = some b) : ∃ ds, items e = some ds ∧ SeqAt.shaped d = true ∧ SeqAt.shaped e = true ∧ b = ds.any fun z => PyData.eqv z d := by
  obtain ⟨ds, h1, h2⟩ := bnd h
  split at h2
  · rename_i hc
    cases h2
    rw [Bool.and_eq_true] at hc
    exact ⟨ds, h1, hc.1, hc.2, rfl⟩
  · cases h2
theorem o_in (hu : X.A.units + 65 < cLine) : OpR X (compareOp .In) (O2 X.K fIn) := by
  intro pins s σ H x y v u Q I rx ry ⟨B, d, e, z, sb, hx, hy, hf, k⟩
  obtain ⟨b, h1, h2⟩ := mpd hf
  subst h2
  obtain ⟨ds, e1, sd, se, rfl⟩ := isIn_of h1
  obtain ⟨as, r1⟩ := Dp.reads I d x v (Dq.p _ _ (Dq_up sb _ _ hx)) rx
  obtain ⟨bs, r2⟩ := Dp.reads I e y u (Dq.p _ _ (Dq_up sb _ _ hy)) ry
  cases e with
  | list es =>
    cases e1
    exact SeqAt.in_list_reads r2 r1 (SeqAt.canLay_of_shaped se) (SeqAt.canLay_of_shaped sd) (room_in_shaped sd hu) ⟨.bl _, H, I, rfl, k _ H B (Gr.refl sb) (.bl _)⟩
  | tuple es =>
    cases e1
    exact SeqAt.in_tuple_reads r2 r1 (SeqAt.canLay_of_shaped se) (SeqAt.canLay_of_shaped sd) (room_in_shaped sd hu) ⟨.bl _, H, I, rfl, k _ H B (Gr.refl sb) (.bl _)⟩
  | _ => cases e1
theorem o_nin (hu : X.A.units + 65 < cLine) : OpR X (compareOp .NotIn) (O2 X.K fNin) := by
  intro pins s σ H x y v u Q I rx ry ⟨B, d, e, z, sb, hx, hy, hf, k⟩
  obtain ⟨b, h1, h2⟩ := mpd hf
  subst h2
  obtain ⟨ds, e1, sd, se, rfl⟩ := isIn_of h1
  obtain ⟨as, r1⟩ := Dp.reads I d x v (Dq.p _ _ (Dq_up sb _ _ hx)) rx
  obtain ⟨bs, r2⟩ := Dp.reads I e y u (Dq.p _ _ (Dq_up sb _ _ hy)) ry
  cases e with
  | list es =>
    cases e1
    exact SeqAt.notIn_list_reads r2 r1 (SeqAt.canLay_of_shaped se) (SeqAt.canLay_of_shaped sd) (room_in_shaped sd hu) ⟨.bl _, H, I, rfl, k _ H B (Gr.refl sb) (.bl _)⟩
  | tuple es =>
    cases e1
    exact SeqAt.notIn_tuple_reads r2 r1 (SeqAt.canLay_of_shaped se) (SeqAt.canLay_of_shaped sd) (room_in_shaped sd hu) ⟨.bl _, H, I, rfl, k _ H B (Gr.refl sb) (.bl _)⟩
  | _ => cases e1
theorem o_is : OpR X (compareOp .Is) (O2 X.K fIs) := by
  intro pins s σ H x y v u Q I rx ry ⟨B, d, e, z, sb, hx, hy, hf, k⟩
  unfold fIs at hf
  split at hf
  · cases hy
    have hb : z = .bool (decide (x = .non)) := by
      cases hx <;> cases hf <;> rfl
    exact op_isN pins s σ H x _ v u Q I rx ry ⟨rfl, k _ H B (Gr.refl sb) (by rw [hb]; exact .bl _)⟩
  · cases hf
theorem o_isn : OpR X (compareOp .IsNot) (O2 X.K fIsn) := by
  intro pins s σ H x y v u Q I rx ry ⟨B, d, e, z, sb, hx, hy, hf, k⟩
  unfold fIsn at hf
  split at hf
  · cases hy
    have hb : z = .bool (!decide (x = .non)) := by
      cases hx <;> cases hf <;> rfl
    exact op_notN pins s σ H x _ v u Q I rx ry ⟨rfl, k _ H B (Gr.refl sb) (by rw [hb]; exact .bl _)⟩
  · cases hf
theorem atI_rel {B : Hp} {xs : List V} {ds : List D} {i : Int} {d : D} (h : DqAll X.K B xs ds) (e : atI ds i = some d) : ∃ v, atI xs i = some v ∧ Dq X.K B v d := by
  unfold atI at e
  obtain ⟨j, e1, e2⟩ := bnd e
  obtain ⟨v, h1, h2⟩ := DqAll.has h e2
  refine ⟨v, ?_, h2⟩
  unfold atI
  rw [DqAll.len h, e1]
  exact h1
theorem i_ix : IxR X (O2 X.K fIx) := by
  intro value slice pins s σ H x y v u Q I rx ry ⟨B, d, e, z, sb, hx, hy, hf, k⟩ hs
  refine ix_seq value slice pins s σ H x y v u Q I rx ry ?_ hs
  unfold fIx at hf
  split at hf
  · cases hx with
    | lst h1 h2 =>
      cases hy
      obtain ⟨w, e1, e2⟩ := atI_rel h2 hf
      exact .inl ⟨_, _, _, _, rfl, rfl, SqL.of (sb _ _ h1), e1, k _ H B (Gr.refl sb) e2⟩
  · cases hx with
    | tup h1 h2 =>
      cases hy
      obtain ⟨w, e1, e2⟩ := atI_rel h2 hf
      exact .inr (.inl ⟨_, _, _, _, rfl, rfl, sq_t sb h1, e1, k _ H B (Gr.refl sb) e2⟩)
  · split at hf
    · rename_i hl
      cases hx; cases hy
      obtain ⟨c, e1, e2⟩ := mpd hf
      exact .inr (.inr ⟨_, _, c, rfl, rfl, hl, e1, k _ H B (Gr.refl sb) (by rw [← e2]; exact .str _)⟩)
    · cases hf
  · cases hf
end
end FL

namespace FL
open PySem PySem.Spec PyProof.Rows L2

/-! ### built-in functions -/
def fLen : List D → Option D
  | [.list ds] => some (.int ds.length)
  | [.tuple ds] => some (.int ds.length)
  | [.str x] => if x.length ≤ sizeLine then some (.int x.length) else none
  | _ => none
def fAbs : List D → Option D
  | [.int i] => some (.int i.natAbs)
  | _ => none
def fInt : List D → Option D
  | [.int i] => some (.int i)
  | [.bool b] => some (.int (if b then 1 else 0))
  | _ => none
def fTuple : List D → Option D
  | [.list ds] => some (.tuple ds)
  | [.tuple ds] => some (.tuple ds)
  | _ => none
def fList : List D → Option (List D)
  | [.list ds] => some ds
  | [.tuple ds] => some ds
  | _ => none
def intsOf : List D → Option (List Int)
  | [] => some []
  | .int i :: r => (intsOf r).map (i :: ·)
  | _ => none
def boolsOf : List D → Option (List Bool)
  | [] => some []
  | .bool i :: r => (boolsOf r).map (i :: ·)
  | _ => none
def fSum : List D → Option D
  | [d] => (items d).bind fun ds => (intsOf ds).map fun ns => .int ns.sum
  | _ => none
def fAll : List D → Option D
  | [.list ds] => (boolsOf ds).map fun bs => .bool (bs.all id)
  | _ => none
def fAny : List D → Option D
  | [.list ds] => (boolsOf ds).map fun bs => .bool (bs.any id)
  | _ => none
def alikeB (ds : List D) : Bool := ds.all (fun x => ds.all fun y => PySem.W.alike x y) && ds.all (fun x => !isNon x) && decide (PyData.depthAll ds ≤ 64)
def maxL : List D → Option D
  | x :: r => if alikeB (x :: r) = true then some (PySem.W.maxD x r) else none
  | [] => none
def minL : List D → Option D
  | x :: r => if alikeB (x :: r) = true then some (PySem.W.minD x r) else none
  | [] => none
def fMax : List D → Option D
  | [d] => (items d).bind maxL
  | [.int i, .int j] => some (.int (if j > i then j else i))
  | _ => none
def fMin : List D → Option D
  | [d] => (items d).bind minL
  | [.int i, .int j] => some (.int (if j < i then j else i))
  | _ => none
def fRepr : List D → Option D
  | [d] => if d.showable = true ∧ d.hasDict = false ∧ d.depth ≤ 64 ∧ d.shown.length ≤ sizeLine then some (.str d.shown) else none
  | _ => none
theorem ints_of : ∀ {ds : List D} {ns : List Int}, intsOf ds = some ns → ds = ns.map .int
  | [], ns, h => by cases h; rfl
  | .int i :: r, ns, h => by
    obtain ⟨ms, h1, h2⟩ := mpd (show (intsOf r).map (i :: ·) = some ns from h)
    subst h2
    rw [ints_of h1]; rfl
  | .none :: _, _, h => by cases h
  | .bool _ :: _, _, h => by cases h
  | .str _ :: _, _, h => by cases h
  | .list _ :: _, _, h => by cases h
  | .tuple _ :: _, _, h => by cases h
  | .dict _ :: _, _, h => by cases h
theorem bools_of : ∀ {ds : List D} {ns : List Bool}, boolsOf ds = some ns → ds = ns.map .bool
  | [], ns, h => by cases h; rfl
  | .bool i :: r, ns, h => by
    obtain ⟨ms, h1, h2⟩ := mpd (show (boolsOf r).map (i :: ·) = some ns from h)
    subst h2
    rw [bools_of h1]; rfl
  | .none :: _, _, h => by cases h
  | .int _ :: _, _, h => by cases h
  | .str _ :: _, _, h => by cases h
  | .list _ :: _, _, h => by cases h
  | .tuple _ :: _, _, h => by cases h
  | .dict _ :: _, _, h => by cases h
theorem vals_int {K : PySem.W.Frag} {B : Hp} : ∀ {ns : List Int} {xs : List V}, DqAll K B xs (ns.map .int) → xs = ns.map V.int
  | [], _, h => by cases h; rfl
  | n :: r, _, h => by
    cases h with
    | cons h1 h2 =>
      cases h1
      rw [vals_int h2]; rfl
theorem vals_bool {K : PySem.W.Frag} {B : Hp} : ∀ {ns : List Bool} {xs : List V}, DqAll K B xs (ns.map .bool) → xs = ns.map V.bl
  | [], _, h => by cases h; rfl
  | n :: r, _, h => by
    cases h with
    | cons h1 h2 =>
      cases h1
      rw [vals_bool h2]; rfl
theorem alikeB_of {ds : List D} (h : alikeB ds = true) : PySem.W.AlikeAll ds ∧ PyData.depthAll ds ≤ 64 := by
  unfold alikeB at h
  simp only [Bool.and_eq_true, decide_eq_true_eq] at h
  refine ⟨⟨fun x hx y hy => List.all_eq_true.mp (List.all_eq_true.mp h.1.1 x hx) y hy, fun x hx z => ?_⟩, h.2⟩
  have := List.all_eq_true.mp h.1.2 x hx
  rw [z] at this; cases this

section
variable {X : Cx}
theorem v1r {a : Addr} {us : List Value} (h : Vals [V.ref a] us) : us = [.ref a] := by
  cases h with
  | cons h1 h2 =>
    cases h2
    cases (show _ = Value.ref a from h1)
    rfl
theorem c_len : CallR X (.builtin "len") (ON X.K fLen) := by
  intro pins s σ H xs us Q I r ⟨B, ds, z, sb, hx, hf, k⟩
  refine call_len pins s σ H xs us Q I r ?_
  unfold fLen at hf
  split at hf
  · cases hf
    cases hx with
    | cons h1 h2 =>
      cases h2
      cases h1 with
      | lst g1 g2 => exact ⟨_, _, rfl, .inl ⟨_, SqL.of (sb _ _ g1), (DqAll.len g2).symm⟩, k _ H B (Gr.refl sb) (.int _)⟩
  · cases hf
    cases hx with
    | cons h1 h2 =>
      cases h2
      cases h1 with
      | tup g1 g2 => exact ⟨_, _, rfl, .inr ⟨_, sq_t sb g1, (DqAll.len g2).symm⟩, k _ H B (Gr.refl sb) (.int _)⟩
  · split at hf
    · rename_i hl
      cases hf
      cases hx with
      | cons h1 h2 =>
        cases h2
        cases h1
        exact ⟨_, _, rfl, ⟨hl, rfl⟩, k _ H B (Gr.refl sb) (.int _)⟩
    · cases hf
  · cases hf
theorem c_abs : CallR X (.builtin "abs") (ON X.K fAbs) := by
  intro pins s σ H xs us Q I r ⟨B, ds, z, sb, hx, hf, k⟩
  refine call_abs pins s σ H xs us Q I r ?_
  unfold fAbs at hf
  split at hf
  · rename_i i
    cases hf
    cases hx with
    | cons h1 h2 =>
      cases h2
      cases h1
      refine ⟨i, rfl, ?_⟩
      rw [show (if i < 0 then -i else i) = (i.natAbs : Int) by split <;> omega]
      exact k _ H B (Gr.refl sb) (.int _)
  · cases hf
theorem c_int : CallR X (.type "int") (ON X.K fInt) := by
  intro pins s σ H xs us Q I r ⟨B, ds, z, sb, hx, hf, k⟩
  refine call_int1 pins s σ H xs us Q I r ?_
  unfold fInt at hf
  split at hf
  · cases hf
    cases hx with
    | cons h1 h2 =>
      cases h2
      cases h1
      exact .inl ⟨_, rfl, k _ H B (Gr.refl sb) (.int _)⟩
  · cases hf
    cases hx with
    | cons h1 h2 =>
      cases h2
      cases h1
      exact .inr ⟨_, rfl, k _ H B (Gr.refl sb) (.int _)⟩
  · cases hf
theorem c_tuple : CallR X (.type "tuple") (ON X.K fTuple) := by
  intro pins s σ H xs us Q I r ⟨B, ds, z, sb, hx, hf, k⟩
  refine call_tuple_of pins s σ H xs us Q I r ?_
  unfold fTuple at hf
  split at hf
  · cases hf
    cases hx with
    | cons h1 h2 =>
      cases h2
      cases h1 with
      | lst g1 g2 => exact ⟨_, _, rfl, .inl ⟨SqL.of (sb _ _ g1), fun p hp => k _ _ _ (Gr.new sb hp) (.tup (SqT.of upd_same) (DqA_up (Same.put (sb.free hp)) _ _ g2))⟩⟩
  · cases hf
    cases hx with
    | cons h1 h2 =>
      cases h2
      cases h1 with
      | tup g1 g2 => exact ⟨_, _, rfl, .inr ⟨sq_t sb g1, k _ H B (Gr.refl sb) (.tup g1 g2)⟩⟩
  · cases hf
theorem c_list : CallR X (.type "list") (ONL X.K fList) := by
  intro pins s σ H xs us Q I r ⟨B, ds, z, sb, hx, hf, k⟩
  refine call_list_of pins s σ H xs us Q I r ?_
  unfold fList at hf
  split at hf
  · cases hf
    cases hx with
    | cons h1 h2 =>
      cases h2
      cases h1 with
      | lst g1 g2 => exact ⟨_, _, rfl, .inl (SqL.of (sb _ _ g1)), fun p hp => k p _ _ B (Gr.lay sb hp) hp (sb.free hp) upd_same g2⟩
  · cases hf
    cases hx with
    | cons h1 h2 =>
      cases h2
      cases h1 with
      | tup g1 g2 => exact ⟨_, _, rfl, .inr (sq_t sb g1), fun p hp => k p _ _ B (Gr.lay sb hp) hp (sb.free hp) upd_same g2⟩
  · cases hf
theorem c_all (hc : X.calm = true) : CallR X (.builtin "all") (ON X.K fAll) := by
  intro pins s σ H xs us Q I r ⟨B, ds, z, sb, hx, hf, k⟩
  refine cr_all hc pins s σ H xs us Q I r ?_
  unfold fAll at hf
  split at hf
  · obtain ⟨bs, h1, h2⟩ := mpd hf
    subst h2
    rw [bools_of h1] at hx
    cases hx with
    | cons h1 h2 =>
      cases h2
      cases h1 with
      | lst g1 g2 => exact ⟨_, bs, rfl, by rw [← vals_bool g2]; exact SqL.of (sb _ _ g1), k _ H B (Gr.refl sb) (.bl _)⟩
  · cases hf
theorem c_any (hc : X.calm = true) : CallR X (.builtin "any") (ON X.K fAny) := by
  intro pins s σ H xs us Q I r ⟨B, ds, z, sb, hx, hf, k⟩
  refine cr_any hc pins s σ H xs us Q I r ?_
  unfold fAny at hf
  split at hf
  · obtain ⟨bs, h1, h2⟩ := mpd hf
    subst h2
    rw [bools_of h1] at hx
    cases hx with
    | cons h1 h2 =>
      cases h2
      cases h1 with
      | lst g1 g2 => exact ⟨_, bs, rfl, by rw [← vals_bool g2]; exact SqL.of (sb _ _ g1), k _ H B (Gr.refl sb) (.bl _)⟩
  · cases hf
theorem sum_tup {P : Program} {w : World} {A : Around} {E : Value → Shared → Prop} {s : Shared} {t : Addr} {vs : List Value} {ns : List Int} {Q : Value → Shared → Prop} (hh : A.handled = none) (ht : s.heap.IsTuple t vs.toArray) (hi : IntsAre vs ns)
    (h : ∀ h' tk t', (∀ b o, s.heap.get? b = some o → h'.get? b = some o) → Q (.int ns.sum t') { s with heap := h', toks := tk }) : wpAny (model P w) A (call (.builtin "sum") [.ref t]) Q E s := by
  obtain ⟨xs, hx⟩ := hi.allInts.items
  have hn : numsOf vs.toArray.toList = ns := hi.numsOf
  rw [hx] at ht hn
  rw [nums_intItems] at hn
  refine PySem.W.ktm_sumG hh ht fun h' tk t' hk => ?_
  rw [preSum_eq, List.take_of_length_le (by simp), hn]
  exact h h' tk t' hk
theorem c_sum (hc : X.calm = true) : CallR X (.builtin "sum") (ON X.K fSum) := by
  intro pins s σ H xs us Q I r ⟨B, ds, z, sb, hx, hf, k⟩
  unfold fSum at hf
  split at hf
  · rename_i d
    obtain ⟨es, h1, h2⟩ := bnd hf
    obtain ⟨ns, h3, h4⟩ := mpd h2
    subst h4
    have e := ints_of h3
    subst e
    cases hx with
    | cons q1 q2 =>
      cases q2
      cases d with
      | list fs =>
        cases h1
        cases q1 with
        | lst g1 g2 =>
          refine cr_sum hc pins s σ H _ us Q I r ⟨_, ns, rfl, by rw [← vals_int g2]; exact SqL.of (sb _ _ g1), k _ H B (Gr.refl sb) (.int _)⟩
      | tuple fs =>
        cases h1
        cases q1 with
        | tup g1 g2 =>
          obtain ⟨its, rv, ht, _⟩ := I.tuple (sq_t sb g1)
          rw [v1r r]
          rw [vals_int g2] at rv
          exact sum_tup (I.ok.hd hc) (show s.heap.IsTuple _ its.toArray from ht) rv.ints fun h' tk t' hk => ⟨.int _, H, I.kept hk, ⟨_, rfl⟩, k _ H B (Gr.refl sb) (.int _)⟩
      | _ => cases h1
  · cases hf
/-- the item that the library hands back is one of ours -/
theorem pick {pins : List (Addr × Obj)} {σ : L2.St} {H B : Hp} {s : Shared} {xs : List V} {its : List Value} {ds : List D} {i : Nat} {v : Value} {h' : Heap} {m : D} {bs : List Addr} (I : L2.Inv X pins σ H s) (sb : Same B H) (g : DqAll X.K B xs ds) (rv : Vals xs its)
    (hv : its[i]? = some v) (hr : Reads h' v m bs) (hk : ∀ b o, s.heap.get? b = some o → h'.get? b = some o) : ∃ x, L2.RelV x v ∧ Dq X.K B x m := by
  have hi : i < xs.length := by
    rw [rv.length]
    exact (List.getElem?_eq_some_iff.mp hv).1
  have e1 : xs[i]? = some xs[i] := List.getElem?_eq_getElem hi
  obtain ⟨u, e2, ru⟩ := rv.get e1
  rw [hv] at e2
  cases e2
  obtain ⟨d, e3, hd⟩ := DqAll.has' g e1
  obtain ⟨as, hd'⟩ := Dp.reads I d xs[i] v (Dq.p _ _ (Dq_up sb _ _ hd)) ru
  have := (reads_det (fun b o e _ => hk b o e) hd' hr).1
  subst this
  exact ⟨_, ru, hd⟩
theorem reads_all {pins : List (Addr × Obj)} {σ : L2.St} {H B : Hp} {s : Shared} {xs : List V} {its : List Value} {ds : List D} (I : L2.Inv X pins σ H s) (sb : Same B H) (g : DqAll X.K B xs ds) (rv : Vals xs its) : ∃ as, ReadsAll s.heap its ds as :=
  Dp.readsAll I ds xs its (DqAll.p _ _ (DqA_up sb _ _ g)) rv
theorem c_maxL (hc : X.calm = true) (hu : X.A.units + 65 < cLine) {pins : List (Addr × Obj)} {s : Shared} {σ : L2.St} {H B : Hp} {v : V} {u : Value} {d z : D} {Q : VK} (I : L2.Inv X pins σ H s) (rx : L2.RelV v u) (sb : Same B H) (hx : Dq X.K B v d) (hf : (items d).bind maxL = some z)
    (k : ∀ v H' B', Gr B H B' H' → Dq X.K B' v z → Q v H') : wpAny (model X.prog X.w) X.A (call (.builtin "max") [u]) (EP X pins σ Q) X.xe s := by
  obtain ⟨ds, h1, h2⟩ := bnd hf
  cases ds with
  | nil => cases h2
  | cons y r =>
    have h2 : (if alikeB (y :: r) = true then some (PySem.W.maxD y r) else none) = some z := h2
    split at h2
    · rename_i ha
      cases h2
      obtain ⟨ha, hd⟩ := alikeB_of ha
      cases d with
      | list fs =>
        cases h1
        cases hx with
        | lst g1 g2 =>
          cases rx
          obtain ⟨its, rv, hl, _⟩ := I.list (SqL.of (sb _ _ g1))
          obtain ⟨as, hr⟩ := reads_all I sb g2 rv
          refine PySem.W.max_list_data (I.ok.hd hc) hl.isList hr ha (by omega) fun i v h' tk bs hv hr' hk => ?_
          obtain ⟨x, ru, hd⟩ := pick I sb g2 rv (by simpa using hv) hr' hk
          exact ⟨x, H, I.kept hk, ru, k _ H B (Gr.refl sb) hd⟩
      | tuple fs =>
        cases h1
        cases hx with
        | tup g1 g2 =>
          cases rx
          obtain ⟨its, rv, hl, _⟩ := I.tuple (sq_t sb g1)
          obtain ⟨as, hr⟩ := reads_all I sb g2 rv
          refine PySem.W.max_tuple_data (I.ok.hd hc) (show s.heap.IsTuple _ its.toArray from hl) hr ha (by omega) fun i v h' tk bs hv hr' hk => ?_
          obtain ⟨x, ru, hd⟩ := pick I sb g2 rv (by simpa using hv) hr' hk
          exact ⟨x, H, I.kept hk, ru, k _ H B (Gr.refl sb) hd⟩
      | _ => cases h1
    · cases h2
theorem c_minL (hc : X.calm = true) (hu : X.A.units + 65 < cLine) {pins : List (Addr × Obj)} {s : Shared} {σ : L2.St} {H B : Hp} {v : V} {u : Value} {d z : D} {Q : VK} (I : L2.Inv X pins σ H s) (rx : L2.RelV v u) (sb : Same B H) (hx : Dq X.K B v d) (hf : (items d).bind minL = some z)
    (k : ∀ v H' B', Gr B H B' H' → Dq X.K B' v z → Q v H') : wpAny (model X.prog X.w) X.A (call (.builtin "min") [u]) (EP X pins σ Q) X.xe s := by
  obtain ⟨ds, h1, h2⟩ := bnd hf
  cases ds with
  | nil => cases h2
  | cons y r =>
    have h2 : (if alikeB (y :: r) = true then some (PySem.W.minD y r) else none) = some z := h2
    split at h2
    · rename_i ha
      cases h2
      obtain ⟨ha, hd⟩ := alikeB_of ha
      cases d with
      | list fs =>
        cases h1
        cases hx with
        | lst g1 g2 =>
          cases rx
          obtain ⟨its, rv, hl, _⟩ := I.list (SqL.of (sb _ _ g1))
          obtain ⟨as, hr⟩ := reads_all I sb g2 rv
          refine PySem.W.min_list_data (I.ok.hd hc) hl.isList hr ha (by omega) fun i v h' tk bs hv hr' hk => ?_
          obtain ⟨x, ru, hd⟩ := pick I sb g2 rv (by simpa using hv) hr' hk
          exact ⟨x, H, I.kept hk, ru, k _ H B (Gr.refl sb) hd⟩
      | tuple fs =>
        cases h1
        cases hx with
        | tup g1 g2 =>
          cases rx
          obtain ⟨its, rv, hl, _⟩ := I.tuple (sq_t sb g1)
          obtain ⟨as, hr⟩ := reads_all I sb g2 rv
          refine PySem.W.min_tuple_data (I.ok.hd hc) (show s.heap.IsTuple _ its.toArray from hl) hr ha (by omega) fun i v h' tk bs hv hr' hk => ?_
          obtain ⟨x, ru, hd⟩ := pick I sb g2 rv (by simpa using hv) hr' hk
          exact ⟨x, H, I.kept hk, ru, k _ H B (Gr.refl sb) hd⟩
      | _ => cases h1
    · cases h2
theorem c_max (hc : X.calm = true) (hu : X.A.units + 65 < cLine) : CallR X (.builtin "max") (ON X.K fMax) := by
  intro pins s σ H xs us Q I r ⟨B, ds, z, sb, hx, hf, k⟩
  unfold fMax at hf
  split at hf
  · cases hx with
    | cons q1 q2 =>
      cases q2
      cases r with
      | cons r1 r2 =>
        cases r2
        exact c_maxL hc hu I r1 sb q1 hf k
  · cases hf
    cases hx with
    | cons q1 q2 =>
      cases q2 with
      | cons q2 q3 =>
        cases q3
        cases q1
        cases q2
        exact call_max2 hc pins s σ H _ us Q I r ⟨_, _, rfl, k _ H B (Gr.refl sb) (.int _)⟩
  · cases hf
theorem c_min (hc : X.calm = true) (hu : X.A.units + 65 < cLine) : CallR X (.builtin "min") (ON X.K fMin) := by
  intro pins s σ H xs us Q I r ⟨B, ds, z, sb, hx, hf, k⟩
  unfold fMin at hf
  split at hf
  · cases hx with
    | cons q1 q2 =>
      cases q2
      cases r with
      | cons r1 r2 =>
        cases r2
        exact c_minL hc hu I r1 sb q1 hf k
  · cases hf
    cases hx with
    | cons q1 q2 =>
      cases q2 with
      | cons q2 q3 =>
        cases q3
        cases q1
        cases q2
        exact call_min2 hc pins s σ H _ us Q I r ⟨_, _, rfl, k _ H B (Gr.refl sb) (.int _)⟩
  · cases hf
theorem c_repr (hg : X.A.guards = some []) (hu : X.A.units + 70 < cLine) : CallR X (.builtin "repr") (ON X.K fRepr) := by
  intro pins s σ H xs us Q I r ⟨B, ds, z, sb, hx, hf, k⟩
  unfold fRepr at hf
  split at hf
  · split at hf
    · rename_i d hc
      obtain ⟨h1, h2, h3, h4⟩ := hc
      cases hf
      cases hx with
      | cons q1 q2 =>
        cases q2
        cases r with
        | cons r1 r2 =>
          cases r2
          rename_i v u
          obtain ⟨as, hr⟩ := Dp.reads I d _ _ (Dq.p _ _ (Dq_up sb _ _ q1)) r1
          have fin : ∀ h' t tk, (∀ b o, s.heap.get? b = some o → h'.get? b = some o) → EP X pins σ Q (.str d.shown t) { s with heap := h', toks := tk } := fun h' t tk hk =>
            ⟨.str _, H, I.kept hk, ⟨t, rfl⟩, k _ H B (Gr.refl sb) (.str _)⟩
          cases q1 with
          | non =>
            cases r1
            exact PySem.P.repr_of_none (fin s.heap _ _ fun _ _ e => e)
          | bl b =>
            cases r1
            exact PySem.P.repr_of_bool (by
              have := fin s.heap s.toks (s.toks + 1) fun _ _ e => e
              simp only [PyData.shown] at this
              exact this)
          | int i =>
            obtain ⟨t, rfl⟩ := r1
            refine PySem.P.repr_of_int (by simpa [PyData.showable] using h1) ?_
            have := fin s.heap s.toks (s.toks + 1) fun _ _ e => e
            simp only [PyData.shown] at this
            exact this
          | str x =>
            obtain ⟨t, rfl⟩ := r1
            refine PySem.P.repr_of_str ?_ (by simpa [PyData.shown] using h4)
            have := fin s.heap s.toks (s.toks + 1) fun _ _ e => e
            simp only [PyData.shown] at this
            exact this
          | lst g1 g2 =>
            cases r1
            exact repr_of_reads' hr h1 (fun z => by rw [h2] at z; cases z) hg (by omega) (fun _ _ e => e) (fun h' t tk hk => fin h' t tk hk) h4
          | tup g1 g2 =>
            cases r1
            exact repr_of_reads' hr h1 (fun z => by rw [h2] at z; cases z) hg (by omega) (fun _ _ e => e) (fun h' t tk hk => fin h' t tk hk) h4
    · cases hf
  · cases hf

/-! ### lists made by operators -/
def fCat : D → D → Option (List D)
  | .list xs, .list ys => if xs.length + ys.length ≤ sizeLine then some (xs ++ ys) else none
  | _, _ => none
def fRep : D → D → Option (List D)
  | .list xs, .int j => if -(2 ^ 63) ≤ j ∧ j < 2 ^ 63 ∧ xs.length * j.toNat ≤ sizeLine then some (List.replicate j.toNat xs).flatten else none
  | _, _ => none
theorem o_cat : OpR X (binaryOp .Add) (O2L X.K fCat) := by
  intro pins s σ H x y v u Q I rx ry ⟨B, d, e, z, sb, hx, hy, hf, k⟩
  unfold fCat at hf
  split at hf
  · split at hf
    · rename_i hl
      cases hf
      cases hx with
      | lst h1 h2 =>
        cases hy with
        | lst g1 g2 =>
          exact op_cat pins s σ H _ _ v u Q I rx ry ⟨_, _, _, _, rfl, rfl, sb _ _ h1, sb _ _ g1, by rw [DqAll.len h2, DqAll.len g2]; exact hl,
            fun p hp => k p _ _ B (Gr.lay sb hp) hp (sb.free hp) upd_same (DqAll.app h2 g2)⟩
    · cases hf
  · cases hf
theorem rep_rel {K : PySem.W.Frag} {B : Hp} {xs : List V} {ds : List D} (h : DqAll K B xs ds) : ∀ n : Nat, DqAll K B (List.replicate n xs).flatten (List.replicate n ds).flatten
  | 0 => .nil
  | n + 1 => by
    rw [List.replicate_succ, List.replicate_succ, List.flatten_cons, List.flatten_cons]
    exact DqAll.app h (rep_rel h n)
theorem o_rep : OpR X (binaryOp .Mult) (O2L X.K fRep) := by
  intro pins s σ H x y v u Q I rx ry ⟨B, d, e, z, sb, hx, hy, hf, k⟩
  unfold fRep at hf
  split at hf
  · split at hf
    · rename_i hl
      cases hf; cases hy
      cases hx with
      | lst h1 h2 =>
        exact op_rep pins s σ H _ _ v u Q I rx ry ⟨_, _, _, rfl, rfl, sb _ _ h1, hl.1, hl.2.1, by rw [DqAll.len h2]; exact hl.2.2,
          fun p hp => k p _ _ B (Gr.lay sb hp) hp (sb.free hp) upd_same (rep_rel h2 _)⟩
    · cases hf
  · cases hf
end
section
variable {π : Type} {Z : PotK π} {S : Sta} {N : List Str} {sc : Scope} {e a b : Expr} {es : List Expr} {pos : Pos} {α β : SE π} {φ : SB π} {ω : SL π}
def lBin (f : D → D → Option (List D)) (α β : SE π) : SL π := fun σ p => (α σ p).bind fun x => (β σ x.2).bind fun y => (f x.1 y.1).map fun z => (z, y.2)
theorem fl_op {op : Operator} {r : R2} {f : D → D → Option (List D)} (ho : ∀ X, Fam S N sc X → OpR X (binaryOp op) r) (hv : Val2L S.K r f) (ha : FE S N sc Z a α) (hb : FE S N sc Z b β) : FL S N sc Z (.BinOp a op b pos) (lBin f α β) := by
  obtain ⟨ta, a1, a2⟩ := ha.ex
  obtain ⟨tb, b1, b2⟩ := hb.ex
  refine ⟨_, fun X hX => pe_op (ho X hX) (a1 X hX) (b1 X hX), fun F B vs H σ p ds p' Q rp e k => ?_⟩
  obtain ⟨⟨x, p1⟩, e1, e⟩ := bnd e
  obtain ⟨⟨y, p2⟩, e2, e⟩ := bnd e
  obtain ⟨z, e3, e4⟩ := mpd e
  cases e4
  refine a2 F B vs H σ p x p1 _ rp e1 fun v H1 B1 s1 r1 d1 => ?_
  refine b2 F B1 vs H1 σ p1 y p2 _ r1 e2 fun u H2 B2 s2 r2 d2 => ?_
  exact hv B2 H2 v u x y _ Q r2.sub (Dq_up s2 x v d1) d2 e3 fun c ys H3 B3 gr hc hb h1 h2 => k c H3 B3 ((s1.trans s2).trans gr.b) (newL_of r2 gr hc hb h1 h2)
theorem fe_ix (ha : FE S N sc Z a α) (hb : FE S N sc Z b β) (hs : PlainIx b := by intro _ _; rfl) : FE S N sc Z (.Subscript a b pos) (xBin fIx α β) := by
  obtain ⟨ta, a1, a2⟩ := ha.ex
  obtain ⟨tb, b1, b2⟩ := hb.ex
  refine ⟨tOp (O2 S.K fIx) ta tb, fun X hX => ?_, sem_bin v_O2 a2 b2⟩
  have h1 := a1 X hX
  have h2 := b1 X hX
  obtain ⟨_, s0, H0, env, outer, stack, ex, fn, pn, hs', hx⟩ := hX
  subst hx
  exact pe_ix i_ix h1 h2 hs
end
end FL

namespace FL
open PySem PySem.Spec PyProof.Rows L2

/-! ### comprehensions as expressions -/
theorem fam_blk {S : Sta} {N : List Str} {sc : Scope} {X : Cx} (hX : Fam S N sc X) (s : Shared) (H : Hp) (scope : Scope) (C : Addr) (cl : List (Str × Addr)) (fp : List Addr) : Fam S N (relS scope sc) (X.blk s H scope (compEnvC scope cl C X.env) fp) := by
  have e := relabel_fam hX scope
  obtain ⟨nd, s0, H0, env, outer, stack, ex, fn, pn, hs, eX⟩ := hX
  subst eX
  exact ⟨nd, s, H, _, _, _, _, _, _, e, rfl⟩
structure FTs {π : Type} (S : Sta) (N : List Str) (sc : Scope) (Z : PotK π) (es : List Expr) (φ : SB π) : Prop where
  ex : ∃ tt, (∀ X, Fam S N sc X → PTs X es tt) ∧ SemT S.K Z tt φ
section
variable {π : Type} {Z : PotK π} {S : Sta} {N : List Str} {sc : Scope} {e a b tg elt it : Expr} {es ifs : List Expr} {pos spos : Pos} {α β : SE π} {φ : SB π} {ω : SL π} {τ : D → Sg → Option Sg} {scope : Scope} {own : List (Str × Nat)}
def xYes : SB π := fun _ p => some (true, p)
theorem fts_nil : FTs S N sc Z [] (xYes (π := π)) := ⟨_, fun _ _ => pts_nil, fun F B vs H σ p c p' Q r e k => by
  cases e
  exact k H B (Same.refl B) r⟩
theorem fts_one (h : FT S N sc Z e φ) : FTs S N sc Z [e] φ := by
  obtain ⟨t, h1, h2⟩ := h.ex
  exact ⟨t, fun X hX => pts_one (h1 X hX), h2⟩
theorem blk_fam {X : Cx} (hX : Fam S N sc X) (h : blkC N sc scope own = true) : BlkOk X.N X.env.scope scope own := by
  obtain ⟨_, s0, H0, env, outer, stack, ex, fn, pn, hs, eX⟩ := hX
  subst eX
  exact blkOk_by (by show blkC N env.scope scope own = true; rw [hs]; exact h)
theorem calm_fam {X : Cx} (hX : Fam S N sc X) : X.calm = true := by
  obtain ⟨_, s0, H0, env, outer, stack, ex, fn, pn, hs, eX⟩ := hX
  subst eX; rfl
theorem N_fam {X : Cx} (hX : Fam S N sc X) : X.N = N := by
  obtain ⟨_, s0, H0, env, outer, stack, ex, fn, pn, hs, eX⟩ := hX
  subst eX; rfl
theorem A_fam {X : Cx} (hX : Fam S N sc X) : X.A = S.A := by
  obtain ⟨_, s0, H0, env, outer, stack, ex, fn, pn, hs, eX⟩ := hX
  subst eX; rfl
theorem K_fam {X : Cx} (hX : Fam S N sc X) : X.K = S.K := by
  obtain ⟨_, s0, H0, env, outer, stack, ex, fn, pn, hs, eX⟩ := hX
  subst eX; rfl
theorem fl_lc (own : List (Str × Nat)) (hi : FI S N sc Z tg it ω) (ok : blkC N sc scope own = true := by decide +kernel) (hg : FGc S N sc scope (own.map (·.2)) tg τ) (ht : FTs S N (relS scope sc) Z ifs φ) (he : FE S N (relS scope sc) Z elt α)
    (hs : ∀ (X : Cx) x, foldedSetIterable it X.env x = pure x := by intro _ _; rfl) : FL S N sc Z (.ListComp elt [⟨tg, it, ifs, 0⟩] scope pos) (lComp (own.map (·.2)) ω τ φ α) := by
  obtain ⟨wi, i1, i2⟩ := hi.ex
  obtain ⟨g, g1, g2⟩ := hg.ex
  obtain ⟨tt, t1, t2⟩ := ht.ex
  obtain ⟨te, e1, e2⟩ := he.ex
  exact ⟨_, fun X hX => pe_lc (calm_fam hX) (by rw [N_fam hX]; exact hX.1) (i1 X hX) (blk_fam hX ok) (fun s H C cl fp => g1 X hX s H C cl fp) (fun s H C cl fp => t1 _ (fam_blk hX s H scope C cl fp)) (fun s H C cl fp => e1 _ (fam_blk hX s H scope C cl fp)) (hs X),
    sem_lc i2 g2 t2 e2⟩
/-- y = [..] on one line -/
theorem fs_setLcL {y : Str} {py : Pos} (i : Nat) (own : List (Str × Nat)) (hy : N[i]? = some y := by rfl) (hyl : sc.names.lookup y = some .local := by rfl)
    (hi : FI S N sc Z tg it ω) (ok : blkC N sc scope own = true := by decide +kernel) (hg : FGc S N sc scope (own.map (·.2)) tg τ) (ht : FTs S N (relS scope sc) Z ifs φ) (he : FE S N (relS scope sc) Z elt α)
    (hk : sc.kind = .function := by rfl) (hl : (py.line == pos.line) = true := by rfl) (hn : (scope.names.any fun (n, k) => n == y && (k == .local || k == .cell)) = false := by decide +kernel)
    (hs : ∀ (X : Cx) x, foldedSetIterable it X.env x = pure x := by intro _ _; rfl) : FS S N sc Z (.Assign [.Name y py] (.ListComp elt [⟨tg, it, ifs, 0⟩] scope pos) spos) (sSetL i (lComp (own.map (·.2)) ω τ φ α)) := by
  obtain ⟨wi, i1, i2⟩ := hi.ex
  obtain ⟨g, g1, g2⟩ := hg.ex
  obtain ⟨tt, t1, t2⟩ := ht.ex
  obtain ⟨te, e1, e2⟩ := he.ex
  refine ⟨tAsg (tLc wi g tt te (own.map (·.2))) (gName i), fun X hX => ?_, sem_setL i (sem_lc i2 g2 t2 e2)⟩
  have q1 := i1 X hX.1
  have q2 := blk_fam hX.1 ok
  have q3 := fun s H C cl fp => g1 X hX.1 s H C cl fp
  have q4 := fun s H C cl fp => t1 _ (fam_blk hX.1 s H scope C cl fp)
  have q5 := fun s H C cl fp => e1 _ (fam_blk hX.1 s H scope C cl fp)
  obtain ⟨⟨nd, s0, H0, env, outer, stack, ex, fn, pn, hs', eX⟩, hf⟩ := hX
  subst eX
  exact ps_setLc rfl nd hy (by show env.scope.names.lookup y = _; rw [hs']; exact hyl) (sw_true (by show env.scope.kind = _; rw [hs']; exact hk) (by show env.scope.names.lookup y = _; rw [hs']; exact hyl) hl hn) q1 q2 q3 q4 q5 (hs _)
theorem semL_E {K : PySem.W.Frag} {te : TE} (h : SemL K Z te ω) : SemE K Z te (xLst ω) := by
  intro F B vs H σ p d p' Q r e k
  obtain ⟨⟨ds, p1⟩, e1, e2⟩ := mpd e
  cases e2
  refine h F B vs H σ p ds p1 Q r e1 fun a H' B' s n => ?_
  obtain ⟨B1, s1, r1, d1⟩ := n.known
  exact k _ H' B1 (s.trans s1) r1 d1
theorem fs_setLc {y : Str} {py : Pos} (i : Nat) (own : List (Str × Nat)) (hy : N[i]? = some y := by rfl) (hyl : sc.names.lookup y = some .local := by rfl)
    (hi : FI S N sc Z tg it ω) (ok : blkC N sc scope own = true := by decide +kernel) (hg : FGc S N sc scope (own.map (·.2)) tg τ) (ht : FTs S N (relS scope sc) Z ifs φ) (he : FE S N (relS scope sc) Z elt α)
    (hk : sc.kind = .function := by rfl) (hl : (py.line == pos.line) = true := by rfl) (hn : (scope.names.any fun (n, k) => n == y && (k == .local || k == .cell)) = false := by decide +kernel)
    (hs : ∀ (X : Cx) x, foldedSetIterable it X.env x = pure x := by intro _ _; rfl) : FS S N sc Z (.Assign [.Name y py] (.ListComp elt [⟨tg, it, ifs, 0⟩] scope pos) spos) (sSet i (xLst (lComp (own.map (·.2)) ω τ φ α))) := by
  obtain ⟨wi, i1, i2⟩ := hi.ex
  obtain ⟨g, g1, g2⟩ := hg.ex
  obtain ⟨tt, t1, t2⟩ := ht.ex
  obtain ⟨te, e1, e2⟩ := he.ex
  refine ⟨tAsg (tLc wi g tt te (own.map (·.2))) (gName i), fun X hX => ?_, sem_set i (semL_E (sem_lc i2 g2 t2 e2))⟩
  have q1 := i1 X hX.1
  have q2 := blk_fam hX.1 ok
  have q3 := fun s H C cl fp => g1 X hX.1 s H C cl fp
  have q4 := fun s H C cl fp => t1 _ (fam_blk hX.1 s H scope C cl fp)
  have q5 := fun s H C cl fp => e1 _ (fam_blk hX.1 s H scope C cl fp)
  obtain ⟨⟨nd, s0, H0, env, outer, stack, ex, fn, pn, hs', eX⟩, hf⟩ := hX
  subst eX
  exact ps_setLc rfl nd hy (by show env.scope.names.lookup y = _; rw [hs']; exact hyl) (sw_true (by show env.scope.kind = _; rw [hs']; exact hk) (by show env.scope.names.lookup y = _; rw [hs']; exact hyl) hl hn) q1 q2 q3 q4 q5 (hs _)

/-! ### calls of defs -/
/-- what a def without a pot promises -/
def spP (K : PySem.W.Frag) (n : Nat) (f : List D → Option D) : Sp := fun vs H Q _ => ∃ B ds z, Same B H ∧ DqAll K B vs ds ∧ ds.length = n ∧ f ds = some z ∧ ∀ v H' B', Gr B H B' H' → Dq K B' v z → Q v H'
/-- a def that is handed the pot first -/
def spZ {π : Type} (K : PySem.W.Frag) (Z : PotK π) (n : Nat) (f : List D → π → Option (D × π)) : Sp := fun vs H Q _ => ∃ pa ga B ws ds p z p', vs = V.ref pa :: ws ∧ Same B H ∧ Z.ok pa ga H p ∧ (∀ a ∈ Z.fp pa ga, B a = none) ∧ DqAll K B ws ds ∧ ds.length + 1 = n ∧ f ds p = some (z, p') ∧
  ∀ v H' B', GrZ Z pa ga B H B' H' p' → Dq K B' v z → Q v H'
def lenIs (n : Nat) (f : List D → Option D) : List D → Option D := fun ds => if ds.length = n then f ds else none
variable {k n : Nat} {fa : Addr} {fd : FuncData} {ps ks : List Str} {x : Str} {q1 : Pos} {f : List D → Option D} {fz : List D → π → Option (D × π)}
theorem ok_fam {X : Cx} {k : Nat} {fa : Addr} {fd : FuncData} {ps : List Str} {sp : Sp} (hX : Fam S N sc X) (F : FnOk S.prog S.w S.K S.mg S.base CX0 k fa fd ps sp) : FnOk X.prog X.w X.K X.mg X.base CX0 k fa fd ps sp := by
  obtain ⟨_, s0, H0, env, outer, stack, ex, fn, pn, hs, eX⟩ := hX
  subst eX; exact F
theorem sem_fun {K : PySem.W.Frag} {ta : TA} {E : XK} (h : SemA K Z ta ω) : SemE K Z (tCall (spP K n f) [] E ta) (xCall (lenIs n f) ω) := by
  intro F B vs H σ p d p' Q r e k
  obtain ⟨⟨ds, p1⟩, e1, e⟩ := bnd e
  obtain ⟨z, e2, e3⟩ := mpd e
  cases e3
  have e2 : (if ds.length = n then f ds else none) = some d := e2
  split at e2
  · rename_i hl
    refine h F B vs H σ p ds p1 _ r e1 fun xs H1 B1 s1 r1 d1 => ?_
    show spP K n f (xs ++ []) H1 Q E
    rw [List.append_nil]
    exact ⟨B1, ds, _, r1.sub, d1, hl, e2, fun v H' B' gr dv => k v H' B' (s1.trans gr.b) (r1.grow gr) dv⟩
  · cases e2
theorem fe_fun (F : FnOk S.prog S.w S.K S.mg S.base CX0 k fa fd ps (spP S.K n f)) (hr : Room k S.A) (hg : Gb sc x) (hm : S.mg x = some (.ref fa)) (hk : PySem.W.keepIn S.K (.ref fa) = true) (hb : Binds S.K fd ps []) (ha : FA S N sc Z (e :: es) ω)
    (hdb : (x == ("__debug__" : Str)) = false := by decide) (he : ∀ X : Cx, starEach (e :: es) X.env = (false, eval e X.env) :: starEach es X.env := by intro _; rfl) (hpl : ∀ X : Cx, (backTo pos (starEach es X.env)).any (·.1) = false := by intro _; rfl) :
    FE S N sc Z (.Call (.Name x q1) (e :: es) [] pos) (xCall (lenIs n f) ω) := by
  obtain ⟨t, a1, a2⟩ := ha.ex
  refine ⟨_, fun X hX => pe_call (ok_fam hX F) (by rw [A_fam hX]; exact hr) (gl_of hX hg) (by rw [mg_of hX]; exact hm) (by rw [K_fam hX]; exact hk) (by rw [K_fam hX]; exact hb) .nil pass0 (a1 X hX) hdb (he X) (hpl X), sem_fun (E := E0) a2⟩
/-- by keywords alone, in another order -/
def permD (ix : List Nat) (ds : List D) : List D := ix.map fun i => ds.getD i .none
def permV (ix : List Nat) (ds : List V) : List V := ix.map fun i => ds.getD i .non
def permU (ix : List Nat) (ds : List Value) : List Value := ix.map fun i => ds.getD i .none
structure FK {π : Type} (S : Sta) (N : List Str) (sc : Scope) (Z : PotK π) (kws : List Keyword) (φ : SL π) : Prop where
  ex : ∃ ta, (∀ X, Fam S N sc X → PK X kws ta) ∧ SemA S.K Z ta φ
variable {kws : List Keyword} {nm : Option Str} {kpos : Pos}
theorem fk_nil : FK S N sc Z [] (aNil (π := π)) := ⟨_, fun _ _ => pk_nil, fun F B vs H σ p ds p' Q r e k => by
  cases e
  exact k [] H B (Same.refl B) r .nil⟩
theorem fk_cons (ha : FE S N sc Z e α) (hr : FK S N sc Z kws ω) : FK S N sc Z (⟨nm, e, kpos⟩ :: kws) (aCons α ω) := by
  obtain ⟨t, a1, a2⟩ := ha.ex
  obtain ⟨u, b1, b2⟩ := hr.ex
  refine ⟨_, fun X hX => pk_cons (a1 X hX) (b1 X hX), fun F B vs H σ p ds p' Q r q k => ?_⟩
  obtain ⟨⟨x, p1⟩, e1, q⟩ := bnd q
  obtain ⟨⟨y, p2⟩, e2, e3⟩ := mpd q
  cases e3
  refine a2 F B vs H σ p x p1 _ r e1 fun v H1 B1 s1 r1 d1 => ?_
  exact b2 F B1 vs H1 σ p1 y p2 _ r1 e2 fun xs H2 B2 s2 r2 d2 => k _ H2 B2 (s1.trans s2) r2 (.cons (Dq_up s2 x v d1) d2)
theorem vals_perm {vs : List V} {us : List Value} (h : Vals vs us) : ∀ ix : List Nat, Vals (permV ix vs) (permU ix us)
  | [] => .nil
  | i :: r => by
    refine .cons (show L2.RelV (vs.getD i .non) (us.getD i .none) from ?_) (vals_perm h r)
    cases e : vs[i]? with
    | none =>
      have e2 := h.none_of e
      rw [List.getD_eq_getElem?_getD, List.getD_eq_getElem?_getD, e, e2]
      exact (rfl : L2.RelV .non .none)
    | some v =>
      obtain ⟨u, e2, ru⟩ := h.get e
      rw [List.getD_eq_getElem?_getD, List.getD_eq_getElem?_getD, e, e2]
      exact ru
theorem dq_perm {K : PySem.W.Frag} {B : Hp} {vs : List V} {ds : List D} (h : DqAll K B vs ds) : ∀ ix : List Nat, DqAll K B (permV ix vs) (permD ix ds)
  | [] => .nil
  | i :: r => by
    refine .cons (show Dq K B (vs.getD i .non) (ds.getD i .none) from ?_) (dq_perm h r)
    cases e : vs[i]? with
    | none =>
      have e2 : ds[i]? = none := by
        rw [List.getElem?_eq_none_iff] at e ⊢
        rw [← DqAll.len h]; exact e
      rw [List.getD_eq_getElem?_getD, List.getD_eq_getElem?_getD, e, e2]
      exact .non
    | some v =>
      obtain ⟨d, e2, hd⟩ := DqAll.has' h e
      rw [List.getD_eq_getElem?_getD, List.getD_eq_getElem?_getD, e, e2]
      exact hd
/-- how the keywords come to the parameters -/
def gU (ix : List Nat) (m : Nat) (us ws : List Value) : List Value := match us with
  | [] => if ws.length = m then permU ix ws else []
  | _ => []
def gVs (ix : List Nat) (m : Nat) (vs zs : List V) : List V := match vs with
  | [] => if zs.length = m then permV ix zs else []
  | _ => []
theorem kb_mk {K : PySem.W.Frag} {ix : List Nat} (h0 : ps.length ≠ 0) (h : ∀ ws : List Value, ws.length = ks.length → bindArgs fd ⟨[], ks.zip ws⟩ = pure (ps.zip (permU ix ws))) : KBinds K fd ps ks (gU ix ks.length) (gVs ix ks.length) where
  to := fun s us ws _ hl => by
    cases us with
    | cons _ _ => exact absurd hl.symm h0
    | nil =>
      have hl : (if ws.length = ks.length then permU ix ws else []).length = ps.length := hl
      show BindsTo s fd ⟨[], ks.zip ws⟩ (ps.zip (if ws.length = ks.length then permU ix ws else []))
      split at hl
      · rename_i q
        rw [if_pos q]
        exact .of_eq (h ws q)
      · exact absurd hl.symm h0
  rel := fun {vs us zs ws} r1 r2 => by
    cases r1 with
    | cons _ _ => exact .nil
    | nil =>
      show Vals (if zs.length = ks.length then permV ix zs else []) (if ws.length = ks.length then permU ix ws else [])
      rw [r2.length]
      split
      · exact vals_perm r2 ix
      · exact .nil
theorem pe_callK0 {X : Cx} {CX : CXT} {sp : Sp} {E : XK} {tk : TA} {g : List Value → List Value → List Value} {gV : List V → List V → List V} {p : Pos} (F : FnOk X.prog X.w X.K X.mg X.base CX k fa fd ps sp) (hr : Room k X.A) (hg : Gl X x) (hm : X.mg x = some (.ref fa)) (hk : PySem.W.keepIn X.K (.ref fa) = true) (hb : KBinds X.K fd ps ks g gV) (hx : Passes CX X E)
    (hkw : PK X kws tk) (hall : (backToKw pos (keywordEach kws X.env)).all (·.1.isSome) = true) (hks : (backToKw pos (keywordEach kws X.env)).filterMap (·.1) = ks)
    (hpl : ((backTo pos (starEach [] X.env)).any (·.1) || (backToKw pos (keywordEach kws X.env)).any (·.1.isNone)) = false) (hdb : (x == ("__debug__" : Str)) = false := by decide) :
    PE X (.Call (.Name x p) [] kws pos) (tCallK sp gV E tNil tk) := by
  refine ⟨fun pins s σ H Q I h => wpAny_Call_Name_kw (ld_glob I hg hm ?_ hdb)⟩
  refine PySem.W.callWith_KW0 (h₀ := X.base) I.ok.mod.kin hk hall (thn (hkw.run pos pins s σ H _ I h) fun ws s2 ⟨zs, H2, I2, rz, q2⟩ => ⟨I2.kIn, ?_⟩) hpl
  rw [hks]
  exact run_fnk F hr hb hx I2 .nil rz q2
def kwF (n : Nat) (ix : List Nat) (m : Nat) (f : List D → Option D) : List D → Option D := fun ds => if ds.length = m then lenIs n f (permD ix ds) else none
theorem sem_funK {K : PySem.W.Frag} {ta : TA} {E : XK} {ix : List Nat} {m : Nat} (h : SemA K Z ta ω) : SemE K Z (tCallK (spP K n f) (gVs ix m) E tNil ta) (xCall (kwF n ix m f) ω) := by
  intro F B vs H σ p d p' Q r e k
  obtain ⟨⟨ds, p1⟩, e1, e⟩ := bnd e
  obtain ⟨z, e2, e3⟩ := mpd e
  cases e3
  have e2 : (if ds.length = m then (if (permD ix ds).length = n then f (permD ix ds) else none) else none) = some d := e2
  split at e2
  · rename_i hm
    split at e2
    · rename_i hl
      refine h F B vs H σ p ds p1 _ r e1 fun xs H1 B1 s1 r1 d1 => ?_
      show spP K n f (if xs.length = m then permV ix xs else []) H1 Q E
      rw [if_pos (by rw [DqAll.len d1]; exact hm)]
      exact ⟨B1, _, _, r1.sub, dq_perm d1 ix, hl, e2, fun v H' B' gr dv => k v H' B' (s1.trans gr.b) (r1.grow gr) dv⟩
    · cases e2
  · cases e2
theorem fe_funK {ix : List Nat} {m : Nat} (F : FnOk S.prog S.w S.K S.mg S.base CX0 k fa fd ps (spP S.K n f)) (hr : Room k S.A) (hg : Gb sc x) (hm : S.mg x = some (.ref fa)) (hk : PySem.W.keepIn S.K (.ref fa) = true) (hb : KBinds S.K fd ps ks (gU ix m) (gVs ix m)) (ha : FK S N sc Z kws ω)
    (hall : ∀ X : Cx, (backToKw pos (keywordEach kws X.env)).all (·.1.isSome) = true := by intro _; rfl) (hks : ∀ X : Cx, (backToKw pos (keywordEach kws X.env)).filterMap (·.1) = ks := by intro _; rfl)
    (hpl : ∀ X : Cx, ((backTo pos (starEach [] X.env)).any (·.1) || (backToKw pos (keywordEach kws X.env)).any (·.1.isNone)) = false := by intro _; rfl) (hdb : (x == ("__debug__" : Str)) = false := by decide) :
    FE S N sc Z (.Call (.Name x q1) [] kws pos) (xCall (kwF n ix m f) ω) := by
  obtain ⟨t, a1, a2⟩ := ha.ex
  refine ⟨_, fun X hX => pe_callK0 (ok_fam hX F) (by rw [A_fam hX]; exact hr) (gl_of hX hg) (by rw [mg_of hX]; exact hm) (by rw [K_fam hX]; exact hk) (by rw [K_fam hX]; exact hb) pass0 (a1 X hX) (hall X) (hks X) (hpl X) hdb, sem_funK (E := E0) a2⟩
/-- a call that hands on the pot -/
def xFunZ (n : Nat) (i : Nat) (f : List D → π → Option (D × π)) (ω : SL π) : SE π := fun σ p => match σ[i]? with
  | some .pot => (ω σ p).bind fun x => if x.1.length + 1 = n then f x.1 x.2 else none
  | _ => none
theorem sem_funZ {K : PySem.W.Frag} {ta : TA} {E : XK} {i : Nat} (h : SemA K Z ta ω) : SemE K Z (tCall (spZ K Z n fz) [] E (tCons (tVar i) ta)) (xFunZ n i fz ω) := by
  intro F B vs H σ p d p' Q r e k
  unfold xFunZ at e
  split at e
  · rename_i q
    obtain ⟨⟨ds, p1⟩, e1, e⟩ := bnd e
    have e : (if ds.length + 1 = n then fz ds p1 else none) = some (d, p') := e
    split at e
    · rename_i hl
      refine ⟨_, r.pot i q, ?_⟩
      refine h F B vs H σ p ds p1 _ r e1 fun xs H1 B1 s1 r1 d1 => ?_
      show spZ K Z n fz ((V.ref F.pa :: xs) ++ []) H1 Q E
      rw [List.append_nil]
      exact ⟨F.pa, F.g, B1, xs, ds, p1, d, p', rfl, r1.sub, r1.pok, fun a ha => r1.noB a (r1.potN a ha), d1, hl, e, fun v H' B' gr dv => k v H' B' (s1.trans gr.b) (r1.growZ gr) dv⟩
    · cases e
  · cases e
theorem fe_funZ {y : Str} {q2 : Pos} (i : Nat) (F : FnOk S.prog S.w S.K S.mg S.base CX0 k fa fd ps (spZ S.K Z n fz)) (hr : Room k S.A) (hg : Gb sc x) (hm : S.mg x = some (.ref fa)) (hk : PySem.W.keepIn S.K (.ref fa) = true) (hb : Binds S.K fd ps []) (ha : FA S N sc Z es ω)
    (hN : N[i]? = some y := by rfl) (hv : Vis sc y := by first | exact Or.inl rfl | exact Or.inr (Or.inl rfl) | exact Or.inr (Or.inr rfl)) (hd : (y == ("__debug__" : Str)) = false := by decide) (hcd : (y == ("__classdict__" : Str)) = false := by decide)
    (hdb : (x == ("__debug__" : Str)) = false := by decide) (he : ∀ X : Cx, starEach (.Name y q2 :: es) X.env = (false, eval (.Name y q2) X.env) :: starEach es X.env := by intro _; rfl) (hpl : ∀ X : Cx, (backTo pos (starEach es X.env)).any (·.1) = false := by intro _; rfl) :
    FE S N sc Z (.Call (.Name x q1) (.Name y q2 :: es) [] pos) (xFunZ n i fz ω) := by
  obtain ⟨t, a1, a2⟩ := ha.ex
  refine ⟨_, fun X hX => ?_, sem_funZ (E := E0) (i := i) a2⟩
  have hp : PE X (.Name y q2) (tVar i) := var_at hX hN hv hd hcd
  exact pe_call (ok_fam hX F) (by rw [A_fam hX]; exact hr) (gl_of hX hg) (by rw [mg_of hX]; exact hm) (by rw [K_fam hX]; exact hk) (by rw [K_fam hX]; exact hb) .nil pass0 (pa_cons hp (a1 X hX) (he X)) hdb (he X) (hpl X)
end

/-! ### a def's promise, from its body's reading -/
def outD {π : Type} : Option (Out π) → Option (D × π)
  | some (.rt d p) => some (d, p)
  | some (.nx _ p) => some (.none, p)
  | _ => none
/-- the value of a def of n parameters and m names -/
def runP (m : Nat) (ψ : SS Unit) (ds : List D) : Option D := (outD (ψ (ds.map .val ++ List.replicate (m - ds.length) .un) ())).map (·.1)
def runZ {π : Type} (m : Nat) (ψ : SS π) (ds : List D) (p : π) : Option (D × π) := outD (ψ (.pot :: ds.map .val ++ List.replicate (m - (ds.length + 1)) .un) p)
theorem start_rep {π : Type} {K : PySem.W.Frag} {Z : PotK π} {F : Fx} {B H : Hp} {p : π} {N : List Str} {vs : List V} {ds : List D} (h : DqAll K B vs ds) (hs : Same B H) (h0 : F.H0 = H) (hp : Z.ok F.pa F.g H p) (hN : ∀ a ∈ Z.fp F.pa F.g, F.N a)
    (hb : ∀ a, F.N a → B a = none) (hh : ∀ a, F.N a → H a ≠ none) : Rep K Z F B (L2.start N vs) H (ds.map .val ++ List.replicate (N.length - ds.length) .un) p where
  sub := hs
  old := fun a o _ e => by rw [h0] at e; exact e
  pok := hp
  potN := hN
  noB := hb
  noH := hh
  len := by
    have := DqAll.len h
    unfold L2.start
    simp only [List.length_append, List.length_map, List.length_replicate]
    omega
  val := fun i d e => by
    have hl := DqAll.len h
    by_cases hi : i < ds.length
    · rw [List.getElem?_append_left (by simpa using hi), List.getElem?_map] at e
      obtain ⟨d', e1, e2⟩ := mpd e
      cases e2
      obtain ⟨v, g1, g2⟩ := DqAll.has h e1
      refine ⟨v, ?_, g2⟩
      unfold L2.start
      rw [List.getElem?_append_left (by simpa [hl] using hi), List.getElem?_map, g1]; rfl
    · rw [List.getElem?_append_right (by simpa using hi), List.getElem?_replicate] at e
      split at e <;> cases e
  own := fun i es e => by
    exfalso
    by_cases hi : i < ds.length
    · rw [List.getElem?_append_left (by simpa using hi), List.getElem?_map] at e
      obtain ⟨d', e1, e2⟩ := mpd e
      cases e2
    · rw [List.getElem?_append_right (by simpa using hi), List.getElem?_replicate] at e
      split at e <;> cases e
  pot := fun i e => by
    exfalso
    by_cases hi : i < ds.length
    · rw [List.getElem?_append_left (by simpa using hi), List.getElem?_map] at e
      obtain ⟨d', e1, e2⟩ := mpd e
      cases e2
    · rw [List.getElem?_append_right (by simpa using hi), List.getElem?_replicate] at e
      split at e <;> cases e
  apart := fun i j a xs ys e1 e2 q1 q2 => by
    exfalso
    by_cases hi : i < ds.length
    · rw [List.getElem?_append_left (by simpa using hi), List.getElem?_map] at q1
      obtain ⟨d', e1, e2⟩ := mpd q1
      cases e2
    · rw [List.getElem?_append_right (by simpa using hi), List.getElem?_replicate] at q1
      split at q1 <;> cases q1
theorem start_repZ {π : Type} {K : PySem.W.Frag} {Z : PotK π} {F : Fx} {B H : Hp} {p : π} {N : List Str} {vs : List V} {ds : List D} (h : DqAll K B vs ds) (hs : Same B H) (h0 : F.H0 = H) (hp : Z.ok F.pa F.g H p) (hN : ∀ a ∈ Z.fp F.pa F.g, F.N a)
    (hb : ∀ a, F.N a → B a = none) (hh : ∀ a, F.N a → H a ≠ none) : Rep K Z F B (L2.start N (V.ref F.pa :: vs)) H (Sl.pot :: (ds.map .val ++ List.replicate (N.length - (ds.length + 1)) .un)) p where
  sub := hs
  old := fun a o _ e => by rw [h0] at e; exact e
  pok := hp
  potN := hN
  noB := hb
  noH := hh
  len := by
    have := DqAll.len h
    unfold L2.start
    simp only [List.length_append, List.length_map, List.length_replicate, List.length_cons]
    omega
  val := fun i d e => by
    have hl := DqAll.len h
    cases i with
    | zero => cases e
    | succ i =>
      rw [List.getElem?_cons_succ] at e
      by_cases hi : i < ds.length
      · rw [List.getElem?_append_left (by simpa using hi), List.getElem?_map] at e
        obtain ⟨d', e1, e2⟩ := mpd e
        cases e2
        obtain ⟨v, g1, g2⟩ := DqAll.has h e1
        refine ⟨v, ?_, g2⟩
        unfold L2.start
        rw [List.getElem?_append_left (by simpa [hl] using hi), List.getElem?_map, List.getElem?_cons_succ, g1]; rfl
      · rw [List.getElem?_append_right (by simpa using hi), List.getElem?_replicate] at e
        split at e <;> cases e
  own := fun i es e => by
    exfalso
    cases i with
    | zero => cases e
    | succ i =>
      rw [List.getElem?_cons_succ] at e
      by_cases hi : i < ds.length
      · rw [List.getElem?_append_left (by simpa using hi), List.getElem?_map] at e
        obtain ⟨d', e1, e2⟩ := mpd e
        cases e2
      · rw [List.getElem?_append_right (by simpa using hi), List.getElem?_replicate] at e
        split at e <;> cases e
  pot := fun i e => by
    cases i with
    | zero => rfl
    | succ i =>
      exfalso
      rw [List.getElem?_cons_succ] at e
      by_cases hi : i < ds.length
      · rw [List.getElem?_append_left (by simpa using hi), List.getElem?_map] at e
        obtain ⟨d', e1, e2⟩ := mpd e
        cases e2
      · rw [List.getElem?_append_right (by simpa using hi), List.getElem?_replicate] at e
        split at e <;> cases e
  apart := fun i j a xs ys e1 e2 q1 q2 => by
    exfalso
    cases i with
    | zero => cases q1
    | succ i =>
      rw [List.getElem?_cons_succ] at q1
      by_cases hi : i < ds.length
      · rw [List.getElem?_append_left (by simpa using hi), List.getElem?_map] at q1
        obtain ⟨d', e1, e2⟩ := mpd q1
        cases e2
      · rw [List.getElem?_append_right (by simpa using hi), List.getElem?_replicate] at q1
        split at q1 <;> cases q1
theorem body_P {K : PySem.W.Frag} {N : List Str} {ts : TS} {ψ : SS Unit} {n : Nat} {vs : List V} {H : Hp} {Q : VK} {E : XK} (h : SemS K noPot ts ψ) (hs : spP K n (runP N.length ψ) vs H Q E) : ts { nx := fun _ H' => Q .non H', rt := Q } (L2.start N vs) H := by
  obtain ⟨B, ds, z, sb, hd, hl, hz, k⟩ := hs
  obtain ⟨⟨z', u⟩, e1, e2⟩ := mpd hz
  subst e2
  have R : Rep K noPot ⟨0, 0, fun a => H a ≠ none ∧ B a = none, H⟩ B (L2.start N vs) H (ds.map .val ++ List.replicate (N.length - ds.length) .un) () :=
    start_rep hd sb rfl trivial (fun a ha => by cases ha) (fun a ha => ha.2) (fun a ha => ha.1)
  have gr : ∀ {B' H' : Hp} {vs' : L2.St} {σ' : Sg}, Same B B' → Rep K noPot ⟨0, 0, fun a => H a ≠ none ∧ B a = none, H⟩ B' vs' H' σ' () → Gr B H B' H' := fun {B' H' vs' σ'} s' r' => ⟨s', fun a o e => r'.old a o (by intro w; cases w) e, r'.sub, fun a ha => by
    by_cases q : B a = none
    · right
      cases q2 : H a with
      | none => rfl
      | some o => exact absurd (r'.noB a ⟨by rw [q2]; simp, q⟩) ha
    · exact .inl q⟩
  cases c : ψ (ds.map .val ++ List.replicate (N.length - ds.length) .un) () with
  | none => rw [c] at e1; cases e1
  | some o =>
    rw [c] at e1
    refine h _ B (L2.start N vs) H _ () o _ R c ?_
    cases o with
    | nx σ1 p1 =>
      cases e1
      exact fun vs' H' B' s' r' => k _ H' B' (gr s' r') .non
    | rt d p1 =>
      cases e1
      exact fun v vs' H' B' σ' s' r' dv => k v H' B' (gr s' r') dv
    | bk _ _ => cases e1
    | ct _ _ => cases e1
theorem body_Z {π : Type} {Z : PotK π} {K : PySem.W.Frag} {N : List Str} {ts : TS} {ψ : SS π} {n : Nat} {vs : List V} {H : Hp} {Q : VK} {E : XK} (h : SemS K Z ts ψ) (hs : spZ K Z n (runZ N.length ψ) vs H Q E) : ts { nx := fun _ H' => Q .non H', rt := Q } (L2.start N vs) H := by
  obtain ⟨pa, ga, B, ws, ds, p, z, p', rfl, sb, hok, hB, hd, hl, hz, k⟩ := hs
  have R : Rep K Z ⟨pa, ga, fun a => a ∈ Z.fp pa ga ∨ (H a ≠ none ∧ B a = none), H⟩ B (L2.start N (V.ref pa :: ws)) H (Sl.pot :: (ds.map .val ++ List.replicate (N.length - (ds.length + 1)) .un)) p :=
    start_repZ (F := ⟨pa, ga, fun a => a ∈ Z.fp pa ga ∨ (H a ≠ none ∧ B a = none), H⟩) hd sb rfl hok (fun a ha => .inl ha) (fun a ha => ha.elim (hB a) (·.2)) (fun a ha => ha.elim (Z.trk pa ga H p hok a) (·.1))
  have gr : ∀ {B' H' : Hp} {vs' : L2.St} {σ' : Sg} {p1 : π}, Same B B' → Rep K Z ⟨pa, ga, fun a => a ∈ Z.fp pa ga ∨ (H a ≠ none ∧ B a = none), H⟩ B' vs' H' σ' p1 → GrZ Z pa ga B H B' H' p1 := fun {B' H' vs' σ' p1} s' r' => ⟨s', fun a o n e => r'.old a o n e, r'.sub, fun a ha => by
    by_cases q : B a = none
    · right
      cases q2 : H a with
      | none => rfl
      | some o => exact absurd (r'.noB a (.inr ⟨by rw [q2]; simp, q⟩)) ha
    · exact .inl q, r'.pok⟩
  have hz : outD (ψ (Sl.pot :: (ds.map .val ++ List.replicate (N.length - (ds.length + 1)) .un)) p) = some (z, p') := hz
  cases c : ψ (Sl.pot :: (ds.map .val ++ List.replicate (N.length - (ds.length + 1)) .un)) p with
  | none => rw [c] at hz; cases hz
  | some o =>
    rw [c] at hz
    refine h _ B _ H _ p o _ R c ?_
    cases o with
    | nx σ1 p1 =>
      cases hz
      exact fun vs' H' B' s' r' => k _ H' B' (gr s' r') .non
    | rt d p1 =>
      cases hz
      exact fun v vs' H' B' σ' s' r' dv => k v H' B' (gr s' r') dv
    | bk _ _ => cases hz
    | ct _ _ => cases hz
end FL

namespace FL
open PySem PySem.Spec PyProof.Rows L2

/-- the context of a def's body -/
abbrev cx (P : Program) (w : World) (K : PySem.W.Frag) (mg : Str → Option Value) (base : Heap) (N : List Str) (qual : Str) (scope : Scope) (f : Addr) (cd : Value) (A : Around) (outer : List Env) (s : Shared) (H : Hp) (E : XK) : Cx :=
  (cxOf CX0 P w K mg base N qual scope f cd A outer s H E).nox
section
variable {P : Program} {w : World} {K : PySem.W.Frag} {mg : Str → Option Value} {base : Heap} {N ps : List Str} {qual x : Str} {st : Stmt} {f : Addr} {fd : FuncData}
theorem fam_self {scope : Scope} {cd : Value} {A : Around} {outer : List Env} {s : Shared} {H : Hp} {E : XK} (nd : N.Nodup) : Fam1 ⟨P, w, K, mg, base, A.deeper (envOfC qual scope s.heap.objs.size f cd)⟩ N scope (cx P w K mg base N qual scope f cd A outer s H E) :=
  ⟨⟨nd, _, _, _, _, _, _, _, _, rfl, rfl⟩, fun _ => rfl⟩
/-- a def without a pot -/
theorem ok_P {k : Nat} {ψ : SS Unit} (F : Fun K x qual st f fd) (S : FnScope N ps (defScope st)) (hb : ∀ A : Around, Room k A → FSs ⟨P, w, K, mg, base, A⟩ N (defScope st) noPot (defBody st) ψ) :
    FnOk P w K mg base CX0 (k + 1) f fd ps (spP K ps.length (runP N.length ψ)) := by
  refine F.ok S (fun vs H Q E ⟨B, ds, z, h1, h2, h3, _⟩ => by rw [DqAll.len h2]; exact h3) fun cd A outer s H vs Q E hr hs => ?_
  obtain ⟨t, h1, h2⟩ := (hb _ hr).ex
  exact ⟨t, h1 _ (fam_self S.nd), body_P h2 hs⟩
theorem ok_Z {π : Type} {Z : PotK π} {k : Nat} {ψ : SS π} (F : Fun K x qual st f fd) (S : FnScope N ps (defScope st)) (hb : ∀ A : Around, Room k A → FSs ⟨P, w, K, mg, base, A⟩ N (defScope st) Z (defBody st) ψ) :
    FnOk P w K mg base CX0 (k + 1) f fd ps (spZ K Z ps.length (runZ N.length ψ)) := by
  refine F.ok S (fun vs H Q E ⟨pa, ga, B, ws, ds, p, z, p', h0, h1, h2, h3, h4, h5, _⟩ => by rw [h0, List.length_cons, DqAll.len h4]; exact h5) fun cd A outer s H vs Q E hr hs => ?_
  obtain ⟨t, h1, h2⟩ := (hb _ hr).ex
  exact ⟨t, h1 _ (fam_self S.nd), body_Z h2 hs⟩
theorem ok_P' {k m n : Nat} {ψ : SS Unit} {g : List D → Option D} (F : Fun K x qual st f fd) (S : FnScope N ps (defScope st)) (hm : N.length = m) (hn : ps.length = n) (hg : g = runP m ψ) (hb : ∀ A : Around, Room k A → FSs ⟨P, w, K, mg, base, A⟩ N (defScope st) noPot (defBody st) ψ) :
    FnOk P w K mg base CX0 (k + 1) f fd ps (spP K n g) := by
  subst hm hn hg
  exact ok_P F S hb
theorem ok_Z' {π : Type} {Z : PotK π} {k m n : Nat} {ψ : SS π} {g : List D → π → Option (D × π)} (F : Fun K x qual st f fd) (S : FnScope N ps (defScope st)) (hm : N.length = m) (hn : ps.length = n) (hg : g = runZ m ψ) (hb : ∀ A : Around, Room k A → FSs ⟨P, w, K, mg, base, A⟩ N (defScope st) Z (defBody st) ψ) :
    FnOk P w K mg base CX0 (k + 1) f fd ps (spZ K Z n g) := by
  subst hm hn hg
  exact ok_Z F S hb
/-- keywords -/
theorem kb_of {ks : List Str} {ix : List Nat} (F : Fun K x qual st f fd) (h0 : ps.length ≠ 0)
    (h : ∀ (kV doc pm : Value) (an : Option Addr) (cd ct : Value) (ws : List Value), ws.length = ks.length → bindArgs (PySem.W.fnOf x qual (defArgs st) (defBody st) (defScope st) .none kV doc pm an cd ct) ⟨[], ks.zip ws⟩ = pure (ps.zip (permU ix ws))) :
    KBinds K fd ps ks (gU ix ks.length) (gVs ix ks.length) := by
  obtain ⟨oc, od, kV, doc, pm, an, cd, ct, osl, rfl, lk, hcd⟩ := F.ex
  exact kb_mk h0 (h kV doc pm an cd ct)

/-! ### the law itself: run by the caller alone (so no display is under way) -/
theorem run_at {k : Nat} {A : Around} {outer : List Env} {s : Shared} {H : Hp} {args : Args} {us : List Value} {vs : List V} {Q : VK} {E : XK} (F : Fun K x qual st f fd) (S : FnScope N ps (defScope st)) (hl : vs.length = ps.length) (hr : Room (k + 1) A)
    (e0 : Env0 P w K mg base A outer s H) (hbd : BindsTo s fd args (ps.zip us)) (r : Vals vs us)
    (hb : ∀ cd : Value, Room k (A.deeper (envOfC qual (defScope st) s.heap.objs.size f cd)) → ∃ t, PSs (cx P w K mg base N qual (defScope st) f cd A outer s H E) (defBody st) t ∧ t { nx := fun _ H' => Q .non H', rt := Q } (L2.start N vs) H) :
    codeAny (model P w) A (.call (.ref f) args) (CR CX0 outer P w H s Q E) s := by
  obtain ⟨oc, od, kV, doc, pm, an, cd, ct, osl, rfl, lk, hcd⟩ := F.ex
  have hK : K.In s.heap := e0.mod.kin.keeps fun b o e => (e0.bs b o e).1
  have hlim : s.heap.NoLimit := e0.mod.nolimit.keeps fun b o e => (e0.bs b o e).1
  refine codeAny_call_function hr.depth (hK _ _ lk) rfl S.co S.gen rfl (PySem.W.codeRec_of hK hcd) (hbd _ _ _ _ ?_)
  have kinds : ∀ y ∈ ps.zip us, (defScope st).names.lookup y.1 = some .local ∨ ((defScope st).names.lookup y.1 = some .cell ∧ ((cellsFrom (s.heap.objs.size + 1) (defScope st).names []).lookup y.1).isSome = true) := by
    intro y hy
    have hp : y.1 ∈ ps := by
      obtain ⟨y1, y2⟩ := y
      exact (List.of_mem_zip hy).1
    rcases S.par y.1 hp with q | q
    · left; exact q
    · right; exact ⟨q, PySem.W.cellsFrom_some _ _ _ (.inl q)⟩
  refine wpAny_newFunctionEnv_cells S.kind kinds fun env he s1 xx => ?_
  subst he
  refine ⟨hlim.keeps xx.toInCall.keep, codeAny_func ?_⟩
  obtain ⟨t, ht, hq⟩ := hb cd (hr.deeper _)
  have I : L2.Inv (cxOf CX0 P w K mg base N qual (defScope st) f cd A outer s H E) [] (L2.start N vs) H s1 := inv_start S hr.hd e0 hl r xx
  refine wpAny_mono (ht.nox.run [] s1 (L2.start N vs) H _ I hq) (fun fl s' hs => ?_) fun e s' hs => hs
  cases fl with
  | ret u =>
    obtain ⟨v, σ', H', J, rv, q⟩ := hs
    exact ⟨v, H', J.os, J.bare, J.base, J.hok, rv, q⟩
  | next =>
    obtain ⟨σ', H', J, q⟩ := hs
    exact ⟨V.non, H', J.os, J.bare, J.base, J.hok, (rfl : L2.RelV V.non Value.none), q⟩
  | brk =>
    obtain ⟨_, _, _, q⟩ := hs
    exact q.elim
  | cont =>
    obtain ⟨_, _, _, q⟩ := hs
    exact q.elim
theorem guards_caller (env : Env) : (callerA.deeper env).guards = some [] := rfl
/-- a law's promise over the heap behind the top -/
theorem law_at {k : Nat} {mb : Str → Option Value} {a : Addr} {y : Str} {s₁ : Shared} {vs : List Value} {ns : List Int} (KX : K.In s₁.heap) (hns : s₁.heap.Ns mainGlobals mg) (hbn : s₁.heap.Ns builtinsNs mb) (hbb : ∀ x : Str, x ≠ "__name__" → mb x = bootBuiltins x) (hlim : s₁.heap.NoLimit)
    (hg : s₁.gens = #[]) (ha : s₁.heap.get? a = some { cls := .type "list", data := .seq vs.toArray }) (hi : IntsAre vs ns) (hl : ns.length ≤ sizeLine) (hr : Room (k + 1) callerA) (F : Fun K x qual st f fd) (S : FnScope N [y] (defScope st)) (hbind : ∀ (s : Shared) (u : Value), BindsTo s fd ⟨[u], []⟩ [(y, u)])
    (hb : ∀ (base : Heap) (cd : Value) (s : Shared) (H : Hp), K.In base → base.Ns mainGlobals mg → Only H → SqL K H a (ns.map V.int) → Room k (callerA.deeper (envOfC qual (defScope st) s.heap.objs.size f cd)) →
      ∃ t, PSs (cx P w K mg base N qual (defScope st) f cd callerA [] s H E0) (defBody st) t ∧ t { nx := fun _ _ => False, rt := fun v _ => v = .bl true } (L2.start N [.ref a]) H) :
    codeAny (model P w) callerA (.call (.ref f) ⟨[.ref a], []⟩) (fun r s' => r = .ok (.ret (.bool true)) ∧ OldK s₁.heap s'.heap ∧ s'.os = s₁.os ∧ AllBare s'.gens) s₁ := by
  have rv := vals_ints hi
  have lenV := hi.length
  have core : ∀ H : Hp, Only H → SqL K H a (ns.map V.int) → HOk P w H s₁.heap → (∀ b, H b ≠ none → b = a) → (H a ≠ none → K.lookup a = none) →
      codeAny (model P w) callerA (.call (.ref f) ⟨[.ref a], []⟩) (fun r s' => r = .ok (.ret (.bool true)) ∧ OldK s₁.heap s'.heap ∧ s'.os = s₁.os ∧ AllBare s'.gens) s₁ := by
    intro H hO hS hok hA hKa
    have noDict : ∀ {b : Addr} {o : Obj} {es : Array DictEntry} {ep : Nat}, s₁.heap.get? b = some o → o.data = .dict es ep → H b = none := by
      intro b o es ep e d
      cases q : H b with
      | none => rfl
      | some u =>
        exfalso
        obtain rfl : b = a := hA b (by rw [q]; simp)
        rw [ha] at e
        cases e
        cases (show Data.seq vs.toArray _ = Data.dict es ep from d)
    have ns2 : ∀ {b : Addr} {m : Str → Option Value}, s₁.heap.Ns b m → (hidT s₁.heap H).Ns b m := by
      rintro b m ⟨o, es, ep, e, d, r⟩
      exact ⟨o, es, ep, hidT_get e (noDict e d), d, r⟩
    have hKb : K.In (hidT s₁.heap H) := by
      intro b o e
      refine hidT_get (KX b o e) ?_
      cases q : H b with
      | none => rfl
      | some u =>
        exfalso
        obtain rfl : b = a := hA b (by rw [q]; simp)
        rw [hKa (by rw [q]; simp)] at e
        cases e
    have hM : Mod K mg (hidT s₁.heap H) := by
      obtain ⟨mc, h1, h2⟩ := hlim
      exact ⟨hKb, ns2 hns, ⟨mb, ns2 hbn, hbb⟩, ⟨mc, ns2 h1, h2⟩⟩
    have e0 : Env0 P w K mg (hidT s₁.heap H) callerA [] s₁ H := by
      refine ⟨rfl, hM, fun b o e => of_hidT e, Nat.le_of_eq (hidT_size _ _), trivial, fun b hb => ?_, hok, .of_eq hg⟩
      cases (show b ∈ ([] : List Addr) from hb)
    have main := run_at (Q := fun v _ => v = .bl true) (E := E0) (args := ⟨[.ref a], []⟩) (us := [.ref a]) (vs := [.ref a]) F S rfl hr e0 (hbind s₁ (.ref a)) (.cons rfl .nil) fun cd hr' => by
      obtain ⟨t, h1, h2⟩ := hb (hidT s₁.heap H) cd s₁ H hKb (ns2 hns) hO hS hr'
      refine ⟨t, h1, ?_⟩
      have e : ({ nx := fun _ H' => (fun v _ => v = V.bl true) V.non H', rt := fun v _ => v = .bl true } : Ends) = { nx := fun _ _ => False, rt := fun v _ => v = .bl true } := by
        have : (fun (_ : L2.St) (_ : Hp) => V.non = V.bl true) = fun _ _ => False := by
          funext _ _
          exact propext ⟨fun z => (by cases z), fun z => False.elim z⟩
        show ({ nx := fun _ _ => V.non = V.bl true, rt := fun v _ => v = .bl true } : Ends) = _
        rw [this]
      rw [e]; exact h2
    refine codeAny_mono main fun r s' h => ?_
    cases r with
    | error e => exact h.elim
    | ok fl =>
      cases fl with
      | next => exact h.elim
      | brk => exact h.elim
      | cont => exact h.elim
      | ret u =>
        obtain ⟨v, H', os, bare, un, hok', r', q⟩ := h
        have q' : v = .bl true := q
        subst q'
        obtain rfl : u = Value.bool true := r'
        refine ⟨rfl, OldK.of_keep fun b o e => ?_, os, bare⟩
        cases q : H b with
        | none => exact un.keep b o e q (by intro z; cases (show b ∈ ([] : List Addr) from z)) (by simp)
        | some u =>
          rcases hO b with z | ⟨ob, xs, z⟩
          · rw [q] at z; cases z
          · have z2 := un.frzs b ob _ z
            obtain ⟨e1, _⟩ := hok b _ z
            obtain ⟨e2, _⟩ := hok' b _ z2
            rw [e] at e1; cases e1
            exact e2
  cases hk : K.lookup a with
  | some o =>
    have e := KX a o hk
    rw [ha] at e
    cases e
    refine core (fun _ => none) (fun _ => .inl rfl) (.inr ⟨_, vs.toArray, _, hk, rfl, rfl, rfl, by rw [List.size_toArray, lenV]; exact hl, by simpa using rv⟩) ?_ ?_ ?_
    · intro b u z
      cases (show (none : Option HO) = some u from z)
    · intro b z; exact absurd rfl z
    · intro z; exact absurd rfl z
  | none =>
    refine core (fun b => if b = a then some (.frz { cls := .type "list", data := .seq vs.toArray } (.lst (ns.map V.int))) else none) ?_ (.inl (.inr ⟨_, if_pos rfl⟩)) ?_ ?_ fun _ => hk
    · intro b
      by_cases hb : b = a
      · exact .inr ⟨_, _, if_pos hb⟩
      · exact .inl (if_neg hb)
    · intro b u z
      by_cases hb : b = a
      · have z' := (if_pos hb).symm.trans z
        cases z'
        subst hb
        exact ⟨ha, by rw [List.length_map]; exact hl, vs, _, rv, ha⟩
      · have z' := (if_neg hb).symm.trans z
        cases z'
    · intro b z
      by_cases hb : b = a
      · exact hb
      · exact absurd (if_neg hb) z
end
open PySem.W in
/-- the end of a row -/
theorem walk_G {l : PySem.W.OpenLaw} {n k : Nat} {q : Program} {loose : List Str} {XP : (Str → Option Value) → Heap → Prop} {YP : World → Heap → Prop} {d : DefRec} {K : Params → PySem.W.Frag} {y : Str} {N : List Str} {x qual : Str} {st : Stmt}
    (hn : l.most = some n) (hn2 : n ≤ sizeLine) (hdf : d.params.defaults = []) (hr : Room (k + 1) callerA) (hY : ∀ (w : World) (h : Heap), YP w h → (K w.params).In h) (S : FnScope N [y] (defScope st))
    (F : ∀ (w : World) (mg : Str → Option Value) (fa : Addr) (h : Heap), (K w.params).In h → h.Ns mainGlobals mg → mg d.name = some (.ref fa) →
      ∃ fd : FuncData, (∀ (s : Shared) (u : Value), BindsTo s fd ⟨[u], []⟩ [(y, u)]) ∧ Fun (K w.params) x qual st fa fd ∧
        ∀ (base : Heap) (cd : Value) (s : Shared) (H : Hp) (a : Addr) (ns : List Int), (K w.params).In base → base.Ns mainGlobals mg → ns.length ≤ n → (∀ z ∈ ns, Builtin.Int.intBits z ≤ 1048576) → Only H → SqL (K w.params) H a (ns.map V.int) →
          Room k (callerA.deeper (envOfC qual (defScope st) s.heap.objs.size fa cd)) →
          ∃ t, PSs (cx l.prog w (K w.params) mg base N qual (defScope st) fa cd callerA [] s H E0) (defBody st) t ∧ t { nx := fun _ _ => False, rt := fun v _ => v = .bl true } (L2.start N [.ref a]) H) :
    PySem.W.WalkO q loose XP YP l.row.toRowW d [] (fun f vs => PySem.call f vs) := by
  refine Att.attach_callB hn hdf fun w s₀ s₁ mg mb fa o pm cd doc a vs ns G Y ho hd hcd hmg hobj hints hlen hbits hg => ?_
  have KX := hY w _ Y
  obtain ⟨fd, hb, hF, hbody⟩ := F w mg fa _ KX G.T.g hmg
  exact law_at KX G.T.g G.T.b G.T.builtins G.T.nolimit hg hobj hints (Nat.le_trans hlen hn2) hr hF S hb fun base cd s H h1 h2 h3 h4 h5 => hbody base cd s H a ns h1 h2 hlen hbits h3 h4 h5
end FL

namespace FL
open PySem PySem.Spec PyProof.Rows L2
section
variable {π : Type} {Z : PotK π} {S : Sta} {N : List Str} {sc : Scope} {e a b c : Expr} {es : List Expr} {pos q1 : Pos} {α β γ : SE π} {φ : SB π} {ω : SL π}
theorem up2 {f : D → D → Option D} {g : Value → Value → Sem Value} (h : ∀ X : Cx, X.A = S.A → X.calm = true → OpR X g (O2 X.K f)) : ∀ X, Fam S N sc X → OpR X g (O2 S.K f) := fun X hX => by
  have := h X (A_fam hX) (calm_fam hX)
  rw [K_fam hX] at this; exact this
theorem up2L {f : D → D → Option (List D)} {g : Value → Value → Sem Value} (h : ∀ X : Cx, OpR X g (O2L X.K f)) : ∀ X, Fam S N sc X → OpR X g (O2L S.K f) := fun X hX => by
  have := h X
  rw [K_fam hX] at this; exact this
theorem up1 {f : D → Option D} {g : Value → Sem Value} (h : ∀ X : Cx, UnR X g (O1 X.K f)) : ∀ X, Fam S N sc X → UnR X g (O1 S.K f) := fun X hX => by
  have := h X
  rw [K_fam hX] at this; exact this
theorem upN {f : List D → Option D} {g : Value} (h : ∀ X : Cx, X.A = S.A → X.calm = true → CallR X g (ON X.K f)) : ∀ X, Fam S N sc X → CallR X g (ON S.K f) := fun X hX => by
  have := h X (A_fam hX) (calm_fam hX)
  rw [K_fam hX] at this; exact this
theorem upNL {f : List D → Option (List D)} {g : Value} (h : ∀ X : Cx, X.A = S.A → X.calm = true → CallR X g (ONL X.K f)) : ∀ X, Fam S N sc X → CallR X g (ONL S.K f) := fun X hX => by
  have := h X (A_fam hX) (calm_fam hX)
  rw [K_fam hX] at this; exact this
theorem hu65 {k : Nat} {A : Around} (r : Room k A) : A.units + 70 < cLine := by have := r.un; omega

theorem fe_add (ha : FE S N sc Z a α) (hb : FE S N sc Z b β) : FE S N sc Z (.BinOp a .Add b pos) (xBin fAdd α β) := fe_op (up2 fun X _ _ => o_add) v_O2 ha hb
theorem fe_sub (ha : FE S N sc Z a α) (hb : FE S N sc Z b β) : FE S N sc Z (.BinOp a .Sub b pos) (xBin fSub α β) := fe_op (up2 fun X _ _ => o_sub) v_O2 ha hb
theorem fe_mul (ha : FE S N sc Z a α) (hb : FE S N sc Z b β) : FE S N sc Z (.BinOp a .Mult b pos) (xBin fMul α β) := fe_op (up2 fun X _ _ => o_mul) v_O2 ha hb
theorem fe_div (ha : FE S N sc Z a α) (hb : FE S N sc Z b β) : FE S N sc Z (.BinOp a .FloorDiv b pos) (xBin fDiv α β) := fe_op (up2 fun X _ _ => o_div) v_O2 ha hb
theorem fe_mod (ha : FE S N sc Z a α) (hb : FE S N sc Z b β) : FE S N sc Z (.BinOp a .Mod b pos) (xBin fMod α β) := fe_op (up2 fun X _ _ => o_mod) v_O2 ha hb
theorem fe_pow (ha : FE S N sc Z a α) (hb : FE S N sc Z b β) : FE S N sc Z (.BinOp a .Pow b pos) (xBin fPow α β) := fe_op (up2 fun X _ _ => o_pow) v_O2 ha hb
theorem fe_shl (ha : FE S N sc Z a α) (hb : FE S N sc Z b β) : FE S N sc Z (.BinOp a .LShift b pos) (xBin fShl α β) := fe_op (up2 fun X _ _ => o_shl) v_O2 ha hb
theorem fe_shr (ha : FE S N sc Z a α) (hb : FE S N sc Z b β) : FE S N sc Z (.BinOp a .RShift b pos) (xBin fShr α β) := fe_op (up2 fun X _ _ => o_shr) v_O2 ha hb
theorem fe_band (ha : FE S N sc Z a α) (hb : FE S N sc Z b β) : FE S N sc Z (.BinOp a .BitAnd b pos) (xBin fAnd α β) := fe_op (up2 fun X _ _ => o_and) v_O2 ha hb
theorem fe_bor (ha : FE S N sc Z a α) (hb : FE S N sc Z b β) : FE S N sc Z (.BinOp a .BitOr b pos) (xBin fOr α β) := fe_op (up2 fun X _ _ => o_or) v_O2 ha hb
theorem fl_cat (ha : FE S N sc Z a α) (hb : FE S N sc Z b β) : FL S N sc Z (.BinOp a .Add b pos) (lBin fCat α β) := fl_op (up2L fun X => o_cat) v_O2L ha hb
theorem fl_rep (ha : FE S N sc Z a α) (hb : FE S N sc Z b β) : FL S N sc Z (.BinOp a .Mult b pos) (lBin fRep α β) := fl_op (up2L fun X => o_rep) v_O2L ha hb
theorem fe_neg (ha : FE S N sc Z a α) : FE S N sc Z (.UnaryOp .USub a pos) (xUn fNeg α) := fe_un (up1 fun X => u_neg) v_O1 ha
theorem fe_inv (ha : FE S N sc Z a α) : FE S N sc Z (.UnaryOp .Invert a pos) (xUn fInv α) := fe_un (up1 fun X => u_inv) v_O1 ha
theorem fe_eq (hu : S.A.units + 70 < cLine) (ha : FE S N sc Z a α) (hb : FE S N sc Z b β) : FE S N sc Z (.Compare a [.Eq] [b] pos) (xBin fEq α β) := fe_cmp (up2 fun X hA _ => o_eq (by rw [hA]; omega)) v_O2 ha hb (nomark _)
theorem ft_eq (hu : S.A.units + 70 < cLine) (ha : FE S N sc Z a α) (hb : FE S N sc Z b β) : FT S N sc Z (.Compare a [.Eq] [b] pos) (xTest (xBin fEq α β)) := ft_cmp (up2 fun X hA _ => o_eq (by rw [hA]; omega)) v_O2 ha hb (nomark _)
theorem fe_ne (hu : S.A.units + 70 < cLine) (ha : FE S N sc Z a α) (hb : FE S N sc Z b β) : FE S N sc Z (.Compare a [.NotEq] [b] pos) (xBin fNe α β) := fe_cmp (up2 fun X hA _ => o_ne (by rw [hA]; omega)) v_O2 ha hb (nomark _)
theorem ft_ne (hu : S.A.units + 70 < cLine) (ha : FE S N sc Z a α) (hb : FE S N sc Z b β) : FT S N sc Z (.Compare a [.NotEq] [b] pos) (xTest (xBin fNe α β)) := ft_cmp (up2 fun X hA _ => o_ne (by rw [hA]; omega)) v_O2 ha hb (nomark _)
theorem fe_lt (hu : S.A.units + 70 < cLine) (ha : FE S N sc Z a α) (hb : FE S N sc Z b β) : FE S N sc Z (.Compare a [.Lt] [b] pos) (xBin fLt α β) := fe_cmp (up2 fun X hA _ => o_lt (by rw [hA]; omega)) v_O2 ha hb (nomark _)
theorem ft_lt (hu : S.A.units + 70 < cLine) (ha : FE S N sc Z a α) (hb : FE S N sc Z b β) : FT S N sc Z (.Compare a [.Lt] [b] pos) (xTest (xBin fLt α β)) := ft_cmp (up2 fun X hA _ => o_lt (by rw [hA]; omega)) v_O2 ha hb (nomark _)
theorem fe_le (hu : S.A.units + 70 < cLine) (ha : FE S N sc Z a α) (hb : FE S N sc Z b β) : FE S N sc Z (.Compare a [.LtE] [b] pos) (xBin fLe α β) := fe_cmp (up2 fun X hA _ => o_le (by rw [hA]; omega)) v_O2 ha hb (nomark _)
theorem ft_le (hu : S.A.units + 70 < cLine) (ha : FE S N sc Z a α) (hb : FE S N sc Z b β) : FT S N sc Z (.Compare a [.LtE] [b] pos) (xTest (xBin fLe α β)) := ft_cmp (up2 fun X hA _ => o_le (by rw [hA]; omega)) v_O2 ha hb (nomark _)
theorem fe_gt (hu : S.A.units + 70 < cLine) (ha : FE S N sc Z a α) (hb : FE S N sc Z b β) : FE S N sc Z (.Compare a [.Gt] [b] pos) (xBin fGt α β) := fe_cmp (up2 fun X hA _ => o_gt (by rw [hA]; omega)) v_O2 ha hb (nomark _)
theorem ft_gt (hu : S.A.units + 70 < cLine) (ha : FE S N sc Z a α) (hb : FE S N sc Z b β) : FT S N sc Z (.Compare a [.Gt] [b] pos) (xTest (xBin fGt α β)) := ft_cmp (up2 fun X hA _ => o_gt (by rw [hA]; omega)) v_O2 ha hb (nomark _)
theorem fe_ge (hu : S.A.units + 70 < cLine) (ha : FE S N sc Z a α) (hb : FE S N sc Z b β) : FE S N sc Z (.Compare a [.GtE] [b] pos) (xBin fGe α β) := fe_cmp (up2 fun X hA _ => o_ge (by rw [hA]; omega)) v_O2 ha hb (nomark _)
theorem ft_ge (hu : S.A.units + 70 < cLine) (ha : FE S N sc Z a α) (hb : FE S N sc Z b β) : FT S N sc Z (.Compare a [.GtE] [b] pos) (xTest (xBin fGe α β)) := ft_cmp (up2 fun X hA _ => o_ge (by rw [hA]; omega)) v_O2 ha hb (nomark _)
theorem fe_in (hu : S.A.units + 70 < cLine) (ha : FE S N sc Z a α) (hb : FE S N sc Z b β) (hm : behindInMarks .In b = false := by rfl) : FE S N sc Z (.Compare a [.In] [b] pos) (xBin fIn α β) := fe_cmp (up2 fun X hA _ => o_in (by rw [hA]; omega)) v_O2 ha hb hm
theorem ft_in (hu : S.A.units + 70 < cLine) (ha : FE S N sc Z a α) (hb : FE S N sc Z b β) (hm : behindInMarks .In b = false := by rfl) : FT S N sc Z (.Compare a [.In] [b] pos) (xTest (xBin fIn α β)) := ft_cmp (up2 fun X hA _ => o_in (by rw [hA]; omega)) v_O2 ha hb hm
theorem fe_nin (hu : S.A.units + 70 < cLine) (ha : FE S N sc Z a α) (hb : FE S N sc Z b β) (hm : behindInMarks .NotIn b = false := by rfl) : FE S N sc Z (.Compare a [.NotIn] [b] pos) (xBin fNin α β) := fe_cmp (up2 fun X hA _ => o_nin (by rw [hA]; omega)) v_O2 ha hb hm
theorem ft_nin (hu : S.A.units + 70 < cLine) (ha : FE S N sc Z a α) (hb : FE S N sc Z b β) (hm : behindInMarks .NotIn b = false := by rfl) : FT S N sc Z (.Compare a [.NotIn] [b] pos) (xTest (xBin fNin α β)) := ft_cmp (up2 fun X hA _ => o_nin (by rw [hA]; omega)) v_O2 ha hb hm
theorem fe_is (ha : FE S N sc Z a α) (hb : FE S N sc Z b β) : FE S N sc Z (.Compare a [.Is] [b] pos) (xBin fIs α β) := fe_cmp (up2 fun X _ _ => o_is) v_O2 ha hb (nobehind _ (by decide) (by decide))
theorem ft_is (ha : FE S N sc Z a α) (hb : FE S N sc Z b β) : FT S N sc Z (.Compare a [.Is] [b] pos) (xTest (xBin fIs α β)) := ft_cmp (up2 fun X _ _ => o_is) v_O2 ha hb (nobehind _ (by decide) (by decide))
theorem fe_isn (ha : FE S N sc Z a α) (hb : FE S N sc Z b β) : FE S N sc Z (.Compare a [.IsNot] [b] pos) (xBin fIsn α β) := fe_cmp (up2 fun X _ _ => o_isn) v_O2 ha hb (nobehind _ (by decide) (by decide))
theorem ft_isn (ha : FE S N sc Z a α) (hb : FE S N sc Z b β) : FT S N sc Z (.Compare a [.IsNot] [b] pos) (xTest (xBin fIsn α β)) := ft_cmp (up2 fun X _ _ => o_isn) v_O2 ha hb (nobehind _ (by decide) (by decide))
theorem fc_len (hm : S.mg "len" = none) (ha : FA S N sc Z (e :: es) ω) (hg : Gb sc "len" := by rfl)
    (he : ∀ X : Cx, starEach (e :: es) X.env = (false, eval e X.env) :: starEach es X.env := by intro _; rfl) (hpl : ∀ X : Cx, (backTo pos (starEach es X.env)).any (·.1) = false := by intro _; rfl) :
    FE S N sc Z (.Call (.Name "len" q1) (e :: es) [] pos) (xCall fLen ω) := fe_callB (upN fun X hA hc => c_len) v_ON hg hm (by decide +kernel) ha (by decide) (by decide) he hpl
theorem fc_abs (hm : S.mg "abs" = none) (ha : FA S N sc Z (e :: es) ω) (hg : Gb sc "abs" := by rfl)
    (he : ∀ X : Cx, starEach (e :: es) X.env = (false, eval e X.env) :: starEach es X.env := by intro _; rfl) (hpl : ∀ X : Cx, (backTo pos (starEach es X.env)).any (·.1) = false := by intro _; rfl) :
    FE S N sc Z (.Call (.Name "abs" q1) (e :: es) [] pos) (xCall fAbs ω) := fe_callB (upN fun X hA hc => c_abs) v_ON hg hm (by decide +kernel) ha (by decide) (by decide) he hpl
theorem fc_int (hm : S.mg "int" = none) (ha : FA S N sc Z (e :: es) ω) (hg : Gb sc "int" := by rfl)
    (he : ∀ X : Cx, starEach (e :: es) X.env = (false, eval e X.env) :: starEach es X.env := by intro _; rfl) (hpl : ∀ X : Cx, (backTo pos (starEach es X.env)).any (·.1) = false := by intro _; rfl) :
    FE S N sc Z (.Call (.Name "int" q1) (e :: es) [] pos) (xCall fInt ω) := fe_callTy (upN fun X hA hc => c_int) v_ON hg hm (by decide +kernel) ha (by decide) (by decide) he hpl
theorem fc_tuple (hm : S.mg "tuple" = none) (ha : FA S N sc Z (e :: es) ω) (hg : Gb sc "tuple" := by rfl)
    (he : ∀ X : Cx, starEach (e :: es) X.env = (false, eval e X.env) :: starEach es X.env := by intro _; rfl) (hpl : ∀ X : Cx, (backTo pos (starEach es X.env)).any (·.1) = false := by intro _; rfl) :
    FE S N sc Z (.Call (.Name "tuple" q1) (e :: es) [] pos) (xCall fTuple ω) := fe_callTy (upN fun X hA hc => c_tuple) v_ON hg hm (by decide +kernel) ha (by decide) (by decide) he hpl
theorem fc_max (hu : S.A.units + 70 < cLine) (hm : S.mg "max" = none) (ha : FA S N sc Z (e :: es) ω) (hg : Gb sc "max" := by rfl)
    (he : ∀ X : Cx, starEach (e :: es) X.env = (false, eval e X.env) :: starEach es X.env := by intro _; rfl) (hpl : ∀ X : Cx, (backTo pos (starEach es X.env)).any (·.1) = false := by intro _; rfl) :
    FE S N sc Z (.Call (.Name "max" q1) (e :: es) [] pos) (xCall fMax ω) := fe_callB (upN fun X hA hc => c_max hc (by rw [hA]; omega)) v_ON hg hm (by decide +kernel) ha (by decide) (by decide) he hpl
theorem fc_min (hu : S.A.units + 70 < cLine) (hm : S.mg "min" = none) (ha : FA S N sc Z (e :: es) ω) (hg : Gb sc "min" := by rfl)
    (he : ∀ X : Cx, starEach (e :: es) X.env = (false, eval e X.env) :: starEach es X.env := by intro _; rfl) (hpl : ∀ X : Cx, (backTo pos (starEach es X.env)).any (·.1) = false := by intro _; rfl) :
    FE S N sc Z (.Call (.Name "min" q1) (e :: es) [] pos) (xCall fMin ω) := fe_callB (upN fun X hA hc => c_min hc (by rw [hA]; omega)) v_ON hg hm (by decide +kernel) ha (by decide) (by decide) he hpl
theorem fc_sum (hm : S.mg "sum" = none) (ha : FA S N sc Z (e :: es) ω) (hg : Gb sc "sum" := by rfl)
    (he : ∀ X : Cx, starEach (e :: es) X.env = (false, eval e X.env) :: starEach es X.env := by intro _; rfl) (hpl : ∀ X : Cx, (backTo pos (starEach es X.env)).any (·.1) = false := by intro _; rfl) :
    FE S N sc Z (.Call (.Name "sum" q1) (e :: es) [] pos) (xCall fSum ω) := fe_callB (upN fun X hA hc => c_sum hc) v_ON hg hm (by decide +kernel) ha (by decide) (by decide) he hpl
theorem fc_all (hm : S.mg "all" = none) (ha : FA S N sc Z (e :: es) ω) (hg : Gb sc "all" := by rfl)
    (he : ∀ X : Cx, starEach (e :: es) X.env = (false, eval e X.env) :: starEach es X.env := by intro _; rfl) (hpl : ∀ X : Cx, (backTo pos (starEach es X.env)).any (·.1) = false := by intro _; rfl) :
    FE S N sc Z (.Call (.Name "all" q1) (e :: es) [] pos) (xCall fAll ω) := fe_callB (upN fun X hA hc => c_all hc) v_ON hg hm (by decide +kernel) ha (by decide) (by decide) he hpl
theorem fc_any (hm : S.mg "any" = none) (ha : FA S N sc Z (e :: es) ω) (hg : Gb sc "any" := by rfl)
    (he : ∀ X : Cx, starEach (e :: es) X.env = (false, eval e X.env) :: starEach es X.env := by intro _; rfl) (hpl : ∀ X : Cx, (backTo pos (starEach es X.env)).any (·.1) = false := by intro _; rfl) :
    FE S N sc Z (.Call (.Name "any" q1) (e :: es) [] pos) (xCall fAny ω) := fe_callB (upN fun X hA hc => c_any hc) v_ON hg hm (by decide +kernel) ha (by decide) (by decide) he hpl
theorem fc_repr (hG : S.A.guards = some []) (hu : S.A.units + 70 < cLine) (hm : S.mg "repr" = none) (ha : FA S N sc Z (e :: es) ω) (hg : Gb sc "repr" := by rfl)
    (he : ∀ X : Cx, starEach (e :: es) X.env = (false, eval e X.env) :: starEach es X.env := by intro _; rfl) (hpl : ∀ X : Cx, (backTo pos (starEach es X.env)).any (·.1) = false := by intro _; rfl) :
    FE S N sc Z (.Call (.Name "repr" q1) (e :: es) [] pos) (xCall fRepr ω) := fe_callB (upN fun X hA hc => c_repr (by rw [hA]; exact hG) (by rw [hA]; exact hu)) v_ON hg hm (by decide +kernel) ha (by decide) (by decide) he hpl
theorem fl_list (hm : S.mg "list" = none) (ha : FA S N sc Z (e :: es) ω) (hg : Gb sc "list" := by rfl)
    (he : ∀ X : Cx, starEach (e :: es) X.env = (false, eval e X.env) :: starEach es X.env := by intro _; rfl) (hpl : ∀ X : Cx, (backTo pos (starEach es X.env)).any (·.1) = false := by intro _; rfl) :
    FL S N sc Z (.Call (.Name "list" q1) (e :: es) [] pos) (lCall fList ω) := fl_callTy (upNL fun X hA hc => c_list) v_ONL hg hm (by decide +kernel) ha (by decide) (by decide) he hpl
end
end FL

namespace FL
open PySem PySem.Spec PyProof.Rows L2

/-! ### the drawing pot -/
structure PotS where
  great : List Int
  a : Int
  b : Int
def potKV (g : Addr) (p : PotS) : List (Key × V) := [(Sum.inr "great", V.ref g), (Sum.inr "seal", V.int p.a), (Sum.inr "turn", V.int p.b)]
def ZB : PotK PotS where
  fp := fun a g => [a, g]
  ok := fun a g H p => a ≠ g ∧ H a = some (.dK (potKV g p)) ∧ H g = some (.lst (p.great.map .int)) ∧ p.great.length ≤ 63
  loc := fun a g H H' p h ⟨h0, h1, h2, h3⟩ => ⟨h0, by rw [h a (by simp)]; exact h1, by rw [h g (by simp)]; exact h2, h3⟩
  trk := fun a g H p ⟨h0, h1, h2, _⟩ b hb => by
    rcases List.mem_cons.mp hb with e | hb
    · rw [e, h1]; simp
    · rcases List.mem_cons.mp hb with e | hb
      · rw [e, h2]; simp
      · cases hb
/-- a draw below m -/
def drawG (c m : Int) (r : List Int) : List Int := if c ≥ m then r ++ [c / m] else r
def drawB (p : PotS) (m : Int) : Int × PotS :=
  match p.great.getLast? with
  | some c => (c % m, { p with great := drawG c m p.great.dropLast })
  | none =>
    let t := p.b + 1
    let o1 := (p.a * 69621 + t * 40503 + 29) % 4294967279
    let o2 := (o1 * o1 + p.a * 7) % 4294967231
    (o2 / 64 % m, { p with a := (p.a * 48271 + o2) % 4294967291, b := t })
def drawF (ds : List D) (p : PotS) : Option (D × PotS) := match ds with
  | [.int m] => if 0 < m ∧ m < 2 ^ 200 then some (.int (drawB p m).1, (drawB p m).2) else none
  | _ => none
theorem drawB_lt (p : PotS) {m : Int} (h : 0 < m) : 0 ≤ (drawB p m).1 ∧ (drawB p m).1 < m := by
  unfold drawB
  split
  · exact ⟨Int.emod_nonneg _ (by omega), Int.emod_lt_of_pos _ h⟩
  · exact ⟨Int.emod_nonneg _ (by omega), Int.emod_lt_of_pos _ h⟩
theorem lay_ints : ∀ ns : List Int, PyData.canLayAll0 (ns.map PyData.int) = true
  | [] => rfl
  | n :: r => by
    rw [List.map_cons, PyData.canLayAll0, lay_ints r]; rfl
theorem depth_ints : ∀ ns : List Int, PyData.depthAll (ns.map PyData.int) = 0
  | [] => rfl
  | n :: r => by
    rw [List.map_cons, PyData.depthAll, depth_ints r]; rfl
theorem shaped_ints (ns : List Int) : SeqAt.shaped (.list (ns.map .int)) = true := by
  unfold SeqAt.shaped
  rw [PyData.canLay0, lay_ints, PyData.depth, depth_ints]; rfl
theorem shaped_intsT (ns : List Int) : SeqAt.shaped (.tuple (ns.map .int)) = true := by
  unfold SeqAt.shaped
  rw [PyData.canLay0, lay_ints, PyData.depth, depth_ints]; rfl
theorem dp_ints {K : PySem.W.Frag} {H : Hp} : ∀ ns : List Int, DpAll K H (ns.map .int) (ns.map .int)
  | [] => .nil
  | n :: r => .cons (.int n) (dp_ints r)
/-- what the pot's maker promises -/
def spMk (K : PySem.W.Frag) (Z : PotK PotS) : Sp := fun vs H Q _ => ∃ (a : Addr) (ns : List Int), vs = [V.ref a] ∧ SqL K H a (ns.map V.int) ∧ ns.length ≤ 63 ∧
  ∀ pa ga H' p, H pa = none → H ga = none → Same H H' → Z.ok pa ga H' p → Q (.ref pa) H'
theorem cut_ints (ns : List Int) (n : Int) : ∃ ms : List Int, cutV (ns.map V.int) none (some n) = ms.map V.int ∧ ms.length ≤ ns.length := by
  unfold cutV
  rw [← List.map_drop, ← List.map_take]
  refine ⟨_, rfl, ?_⟩
  rw [List.length_take, List.length_drop]
  omega
/-- a law behind its pot -/
theorem law_rest {Z : PotK PotS} {K : PySem.W.Frag} {ts : TS} {ψ : SS PotS} {pa ga : Addr} {vs : L2.St} {H : Hp} {p p' : PotS} {m : Nat} (h : SemS K Z ts ψ) (hok : Z.ok pa ga H p) (hl : vs.length = m + 2) (hp : vs[1]? = some (some (.ref pa)))
    (e : ψ (.un :: .pot :: List.replicate m .un) p = some (.rt (.bool true) p')) : ts { nx := fun _ _ => False, rt := fun v _ => v = .bl true } vs H := by
  have no : ∀ (i : Nat) (s : Sl), (Sl.un :: Sl.pot :: List.replicate m Sl.un)[i]? = some s → s = .un ∨ (s = .pot ∧ i = 1) := by
    intro i s hs
    match i, hs with
    | 0, hs => cases hs; exact .inl rfl
    | 1, hs => cases hs; exact .inr ⟨rfl, rfl⟩
    | i + 2, hs =>
      rw [List.getElem?_cons_succ, List.getElem?_cons_succ, List.getElem?_replicate] at hs
      split at hs <;> cases hs
      exact .inl rfl
  refine h ⟨pa, ga, fun a => a ∈ Z.fp pa ga, fun _ => none⟩ (fun _ => none) vs H _ p _ _ ⟨fun a o e => (by cases e), fun a o _ e => (by cases e), hok, fun a h => h, fun a _ => rfl, fun a h => Z.trk pa ga H p hok a h, ?_, fun i d e => ?_, fun i ds e => ?_, fun i e => ?_, fun i j a xs ys _ _ e _ => ?_⟩ e ?_
  · rw [hl]; simp
  · rcases no i _ e with z | ⟨z, _⟩ <;> cases z
  · rcases no i _ e with z | ⟨z, _⟩ <;> cases z
  · rcases no i _ e with z | ⟨_, z⟩
    · cases z
    · subst z; exact hp
  · rcases no i _ e with z | ⟨z, _⟩ <;> cases z
  · intro v vs' H' B' σ' _ _ d
    cases d
    rfl
end FL

namespace FL
open PySem L2

/-! ### what a reading comes to -/
def Ends {π : Type} (ψ : SS π) (σ : Sg) (p : π) (R : Out π → Prop) : Prop := ∃ o, ψ σ p = some o ∧ R o
def EvE {π : Type} {τ : Type} (φ : Sg → π → Option (τ × π)) (σ : Sg) (p : π) (R : τ → π → Prop) : Prop := ∃ d p', φ σ p = some (d, p') ∧ R d p'
section
variable {π : Type} {ψ χ : SS π} {φ : SB π} {α β : SE π} {ω : SL π} {σ : Sg} {p : π} {R : Out π → Prop} {τ : D → Sg → Option Sg}
theorem ev {ρ : Type} {φ : Sg → π → Option (ρ × π)} {R : ρ → π → Prop} {d : ρ} {p' : π} (h : φ σ p = some (d, p')) (k : R d p') : EvE φ σ p R := ⟨d, p', h, k⟩
theorem ends_nil (h : R (.nx σ p)) : Ends sNil σ p R := ⟨_, rfl, h⟩
theorem ends_seq (h : Ends ψ σ p fun o => match o with
    | .nx σ' p' => Ends χ σ' p' R
    | o => R o) : Ends (sSeq ψ χ) σ p R := by
  obtain ⟨o, h1, h2⟩ := h
  unfold Ends sSeq
  rw [h1]
  cases o with
  | nx σ' p' => exact h2
  | rt d p' => exact ⟨_, rfl, h2⟩
  | bk σ' p' => exact ⟨_, rfl, h2⟩
  | ct σ' p' => exact ⟨_, rfl, h2⟩
theorem ends_set {i : Nat} (h : EvE α σ p fun d p' => R (.nx (σ.set i (.val d)) p')) : Ends (sSet i α) σ p R := by
  obtain ⟨d, p', h1, h2⟩ := h
  exact ⟨_, by unfold sSet; rw [h1]; rfl, h2⟩
theorem ends_setL {i : Nat} (h : EvE ω σ p fun d p' => R (.nx (σ.set i (.own d)) p')) : Ends (sSetL i ω) σ p R := by
  obtain ⟨d, p', h1, h2⟩ := h
  exact ⟨_, by unfold sSetL; rw [h1]; rfl, h2⟩
theorem ends_ret (h : EvE α σ p fun d p' => R (.rt d p')) : Ends (sRet α) σ p R := by
  obtain ⟨d, p', h1, h2⟩ := h
  exact ⟨_, by unfold sRet; rw [h1]; rfl, h2⟩
theorem ends_if (h : EvE φ σ p fun b p' => (b = true → Ends ψ σ p' R) ∧ (b = false → Ends χ σ p' R)) : Ends (sIf φ ψ χ) σ p R := by
  obtain ⟨b, p', h1, h2, h3⟩ := h
  cases b with
  | true =>
    obtain ⟨o, g1, g2⟩ := h2 rfl
    exact ⟨o, by unfold sIf; rw [h1]; exact g1, g2⟩
  | false =>
    obtain ⟨o, g1, g2⟩ := h3 rfl
    exact ⟨o, by unfold sIf; rw [h1]; exact g1, g2⟩
theorem ends_if_t {p' : π} (h1 : φ σ p = some (true, p')) (h : Ends ψ σ p' R) : Ends (sIf φ ψ χ) σ p R := ends_if ⟨true, p', h1, fun _ => h, fun z => by cases z⟩
theorem ends_if_f {p' : π} (h1 : φ σ p = some (false, p')) (h : Ends χ σ p' R) : Ends (sIf φ ψ χ) σ p R := ends_if ⟨false, p', h1, fun z => (by cases z), fun _ => h⟩
theorem ends_par {i j : Nat} (h : EvE α σ p fun d p' => EvE β σ p' fun e p2 => R (.nx ((σ.set i (.val d)).set j (.val e)) p2)) : Ends (sPar i j α β) σ p R := by
  obtain ⟨d, p', h1, e, p2, h2, h3⟩ := h
  exact ⟨_, by unfold sPar; rw [h1]; show ((β σ p').map _) = _; rw [h2]; rfl, h3⟩
theorem ends_fz {i : Nat} {ds : List D} (h0 : σ[i]? = some (.own ds)) (h : Ends ψ (σ.set i (.val (.list ds))) p R) : Ends (sFz i ψ) σ p R := by
  obtain ⟨o, h1, h2⟩ := h
  exact ⟨o, by unfold sFz; rw [h0]; exact h1, h2⟩
theorem ends_app {i : Nat} {ds : List D} {d : D} {p' : π} (h1 : α σ p = some (d, p')) (h0 : σ[i]? = some (.own ds)) (hl : ds.length < sizeLine) (h : R (.nx (σ.set i (.own (ds ++ [d]))) p')) : Ends (sApp i α) σ p R :=
  ⟨_, by unfold sApp; rw [h1, h0]; exact if_pos hl, h⟩
theorem ends_ext {i : Nat} {ds es : List D} {p' : π} (h1 : α σ p = some (.list es, p')) (h0 : σ[i]? = some (.own ds)) (hl : ds.length + es.length ≤ sizeLine) (h : R (.nx (σ.set i (.own (ds ++ es))) p')) : Ends (sExt i α) σ p R :=
  ⟨_, by unfold sExt; rw [h1, h0]; exact if_pos hl, h⟩
/-- a loop by an invariant of the turn's number -/
theorem loop_inv (I : Nat → Sg → π → Prop) : ∀ (ds : List D) (k : Nat) (σ : Sg) (p : π), I k σ p →
    (∀ (i : Nat) (d : D) (σ : Sg) (p : π), ds[i]? = some d → I (k + i) σ p → ∃ σ1, τ d σ = some σ1 ∧ Ends ψ σ1 p fun o => ∃ σ2 p2, o = .nx σ2 p2 ∧ I (k + i + 1) σ2 p2) →
    ∃ σ' p', sLoop τ ψ ds σ p = some (.nx σ' p') ∧ I (k + ds.length) σ' p'
  | [], k, σ, p, h, _ => ⟨σ, p, rfl, h⟩
  | d :: r, k, σ, p, h, hs => by
    obtain ⟨σ1, h1, o, h2, σ2, p2, rfl, h3⟩ := hs 0 d σ p rfl h
    have := loop_inv I r (k + 1) σ2 p2 h3 fun i e σ p hi hI => by
      have := hs (i + 1) e σ p (by simpa using hi) (by rw [show k + (i + 1) = k + 1 + i by omega]; exact hI)
      rw [show k + (i + 1) + 1 = k + 1 + i + 1 by omega] at this
      exact this
    obtain ⟨σ', p', g1, g2⟩ := this
    refine ⟨σ', p', ?_, by rw [List.length_cons, show k + (r.length + 1) = k + 1 + r.length by omega]; exact g2⟩
    unfold sLoop
    rw [h1]
    simp only [h2]
    exact g1
theorem ends_for {ds : List D} {p1 : π} (I : Nat → Sg → π → Prop) (h0 : ω σ p = some (ds, p1)) (hI : I 0 σ p1)
    (hs : ∀ (i : Nat) (d : D) (σ : Sg) (p : π), ds[i]? = some d → I i σ p → ∃ σ1, τ d σ = some σ1 ∧ Ends ψ σ1 p fun o => ∃ σ2 p2, o = .nx σ2 p2 ∧ I (i + 1) σ2 p2)
    (hd : ∀ σ p, I ds.length σ p → R (.nx σ p)) : Ends (sFor ω τ ψ) σ p R := by
  obtain ⟨σ', p', h1, h2⟩ := loop_inv (τ := τ) (ψ := ψ) I ds 0 σ p1 hI fun i d σ p hi h => by
    rw [Nat.zero_add] at h ⊢
    exact hs i d σ p hi h
  rw [Nat.zero_add] at h2
  exact ⟨_, by unfold sFor; rw [h0]; exact h1, hd σ' p' h2⟩
/-- a while by an invariant and a measure -/
theorem ends_while (I : Sg → π → Prop) (μ : Sg → π → Nat) : ∀ (n : Nat) (σ : Sg) (p : π), I σ p → μ σ p < n →
    (∀ σ p, I σ p → EvE φ σ p fun b p' => (b = true → Ends ψ σ p' fun o => ∃ σ2 p2, o = .nx σ2 p2 ∧ I σ2 p2 ∧ μ σ2 p2 < μ σ p) ∧ (b = false → R (.nx σ p'))) → Ends (sWhile φ ψ n) σ p R
  | 0, _, _, _, hm, _ => absurd hm (Nat.not_lt_zero _)
  | n + 1, σ, p, h, hm, hs => by
    obtain ⟨b, p', h1, h2, h3⟩ := hs σ p h
    cases b with
    | false => exact ⟨_, by unfold sWhile; rw [h1]; rfl, h3 rfl⟩
    | true =>
      obtain ⟨o, g1, σ2, p2, rfl, g2, g3⟩ := h2 rfl
      obtain ⟨o, q1, q2⟩ := ends_while I μ n σ2 p2 g2 (by omega) hs
      refine ⟨o, ?_, q2⟩
      unfold sWhile
      rw [h1]
      show (match ψ σ p' with
        | some (.nx σ2 p2) => sWhile φ ψ n σ2 p2
        | some (.ct σ2 p2) => sWhile φ ψ n σ2 p2
        | some (.bk σ2 p2) => some (.nx σ2 p2)
        | some (.rt d p2) => some (.rt d p2)
        | none => none) = some o
      rw [g1]
      exact q1

/-- item by item -/
inductive All2 {κ ρ : Type} (G : κ → ρ → Prop) : List κ → List ρ → Prop
  | nil : All2 G [] []
  | cons {x : κ} {y : ρ} {xs : List κ} {ys : List ρ} : G x y → All2 G xs ys → All2 G (x :: xs) (y :: ys)
theorem All2.len {κ ρ : Type} {G : κ → ρ → Prop} : ∀ {xs : List κ} {ys : List ρ}, All2 G xs ys → xs.length = ys.length
  | _, _, .nil => rfl
  | _, _, .cons _ h => by rw [List.length_cons, List.length_cons, h.len]

/-! ### comprehensions -/
theorem lc_map {κ : Type} {own : List Nat} (e : κ → D) (s : κ → Sg) (c : κ → Bool) (h : κ → D) : ∀ (xs : List κ), (∀ x ∈ xs, τ (e x) (wipeS σ own) = some (s x)) → (∀ x ∈ xs, φ (s x) p = some (c x, p)) →
    (∀ x ∈ xs, c x = true → α (s x) p = some (h x, p)) → lcGo own τ φ α (xs.map e) σ p = some ((xs.filter c).map h, p)
  | [], _, _, _ => rfl
  | x :: r, h1, h2, h3 => by
    have ih := lc_map e s c h r (fun y hy => h1 y (List.mem_cons_of_mem _ hy)) (fun y hy => h2 y (List.mem_cons_of_mem _ hy)) fun y hy => h3 y (List.mem_cons_of_mem _ hy)
    rw [List.map_cons]
    unfold lcGo
    rw [h1 x List.mem_cons_self]
    simp only [h2 x List.mem_cons_self, Option.bind_some]
    cases hc : c x with
    | true =>
      rw [if_pos rfl, h3 x List.mem_cons_self hc]
      simp only [Option.bind_some, ih, Option.map_some, List.filter_cons, hc, if_true, List.map_cons]
    | false =>
      rw [if_neg Bool.false_ne_true, ih, List.filter_cons, hc]
      simp only [Bool.false_eq_true, if_false]
/-- all items kept -/
theorem lc_all {κ : Type} {own : List Nat} (e : κ → D) (s : κ → Sg) (h : κ → D) (xs : List κ) (h1 : ∀ x ∈ xs, τ (e x) (wipeS σ own) = some (s x)) (h3 : ∀ x ∈ xs, α (s x) p = some (h x, p)) : lcGo own τ xYes α (xs.map e) σ p = some (xs.map h, p) := by
  have := lc_map (φ := xYes) e s (fun _ => true) h xs h1 (fun _ _ => rfl) fun x hx _ => h3 x hx
  rw [this, List.filter_eq_self.mpr (fun _ _ => rfl)]
/-- the state turns: what is kept is some of the items, each made as told -/
theorem lc_some {κ : Type} {own : List Nat} (e : κ → D) (s : κ → Sg) (h : κ → D) : ∀ (xs : List κ) (p : π), (∀ x ∈ xs, τ (e x) (wipeS σ own) = some (s x)) → (∀ x ∈ xs, ∀ p, ∃ c p1, φ (s x) p = some (c, p1)) →
    (∀ x ∈ xs, ∀ p, α (s x) p = some (h x, p)) → ∃ (ys : List κ) (p' : π), ys.Sublist xs ∧ lcGo own τ φ α (xs.map e) σ p = some (ys.map h, p')
  | [], p, _, _, _ => ⟨[], p, List.nil_sublist _, rfl⟩
  | x :: r, p, h1, h2, h3 => by
    obtain ⟨c, p1, hc⟩ := h2 x List.mem_cons_self p
    obtain ⟨ys, p', hs, ih⟩ := lc_some e s h r p1 (fun y hy => h1 y (List.mem_cons_of_mem _ hy)) (fun y hy => h2 y (List.mem_cons_of_mem _ hy)) fun y hy => h3 y (List.mem_cons_of_mem _ hy)
    cases c with
    | true =>
      refine ⟨x :: ys, p', hs.cons₂ x, ?_⟩
      rw [List.map_cons]
      unfold lcGo
      rw [h1 x List.mem_cons_self]
      simp only [hc, Option.bind_some, if_true, h3 x List.mem_cons_self p1, ih, Option.map_some, List.map_cons]
    | false =>
      refine ⟨ys, p', hs.cons x, ?_⟩
      rw [List.map_cons]
      unfold lcGo
      rw [h1 x List.mem_cons_self]
      simp only [hc, Option.bind_some, Bool.false_eq_true, if_false, ih]
/-- the state turns: each item makes some value of a kind -/
theorem lc_each {κ ρ : Type} {own : List Nat} (e : κ → D) (s : κ → Sg) (h : ρ → D) (G : κ → ρ → Prop) : ∀ (xs : List κ) (p : π), (∀ x ∈ xs, τ (e x) (wipeS σ own) = some (s x)) →
    (∀ x ∈ xs, ∀ p, ∃ y p1, α (s x) p = some (h y, p1) ∧ G x y) → ∃ (ys : List ρ) (p' : π), All2 G xs ys ∧ lcGo own τ xYes α (xs.map e) σ p = some (ys.map h, p')
  | [], p, _, _ => ⟨[], p, .nil, rfl⟩
  | x :: r, p, h1, h3 => by
    obtain ⟨y, p1, hy, gy⟩ := h3 x List.mem_cons_self p
    obtain ⟨ys, p', hs, ih⟩ := lc_each e s h G r p1 (fun y hy => h1 y (List.mem_cons_of_mem _ hy)) fun y hy => h3 y (List.mem_cons_of_mem _ hy)
    refine ⟨y :: ys, p', .cons gy hs, ?_⟩
    rw [List.map_cons]
    unfold lcGo
    rw [h1 x List.mem_cons_self]
    simp only [xYes, Option.bind_some, if_true, hy, ih, Option.map_some, List.map_cons]
theorem comp_ev {own : List Nat} {ds es : List D} {p1 p2 : π} (h0 : ω σ p = some (ds, p1)) (hl : ds.length ≤ sizeLine) (hp : plainAt σ own = true) (h : lcGo own τ φ α ds σ p1 = some (es, p2)) : lComp own ω τ φ α σ p = some (es, p2) := by
  unfold lComp
  rw [h0]
  show (if ds.length ≤ sizeLine ∧ plainAt σ own = true then lcGo own τ φ α ds σ p1 else none) = _
  rw [if_pos ⟨hl, hp⟩, h]
end

/-! ### data -/
abbrev dI (n : Int) : D := .int n
def dT (ns : List Int) : D := .tuple (ns.map .int)
def dTs (l : List (List Int)) : D := .tuple (l.map dT)
theorem intsOf_map : ∀ ns : List Int, intsOf (ns.map .int) = some ns
  | [] => rfl
  | n :: r => by
    rw [List.map_cons]
    unfold intsOf
    rw [intsOf_map r]; rfl
theorem boolsOf_map : ∀ ns : List Bool, boolsOf (ns.map .bool) = some ns
  | [] => rfl
  | n :: r => by
    rw [List.map_cons]
    unfold boolsOf
    rw [boolsOf_map r]; rfl
theorem alikeB_ints (ns : List Int) : alikeB (ns.map .int) = true := by
  unfold alikeB
  rw [depth_ints]
  simp only [Bool.and_eq_true, List.all_eq_true, List.mem_map, decide_eq_true_eq]
  refine ⟨⟨?_, ?_⟩, by decide⟩
  · rintro x ⟨a, _, rfl⟩ y ⟨b, _, rfl⟩
    rfl
  · rintro x ⟨a, _, rfl⟩
    rfl
theorem maxL_ints (n : Int) (ns : List Int) : maxL ((n :: ns).map .int) = some (.int (ns.foldl max n)) := by
  have h := alikeB_ints (n :: ns)
  rw [List.map_cons] at h ⊢
  show (if alikeB (PyData.int n :: List.map PyData.int ns) = true then some (PySem.W.maxD (.int n) (ns.map .int)) else none) = _
  rw [if_pos h, PySem.W.maxD_ints]
theorem minL_ints (n : Int) (ns : List Int) : minL ((n :: ns).map .int) = some (.int (ns.foldl min n)) := by
  have h := alikeB_ints (n :: ns)
  rw [List.map_cons] at h ⊢
  show (if alikeB (PyData.int n :: List.map PyData.int ns) = true then some (PySem.W.minD (.int n) (ns.map .int)) else none) = _
  rw [if_pos h, PySem.W.minD_ints]
theorem eqv_int (a b : Int) : PyData.eqv (.int a) (.int b) = (a == b) := by simp [PyData.eqv]
theorem any_eqv (ns : List Int) (x : Int) : ((ns.map PyData.int).any fun z => PyData.eqv z (.int x)) = ns.contains x := by
  induction ns with
  | nil => rfl
  | cons n r ih =>
    rw [List.map_cons, List.any_cons, ih, eqv_int, List.contains_cons]
    congr 1
    exact Bool.eq_iff_iff.mpr (by rw [beq_iff_eq, beq_iff_eq]; exact ⟨fun h => h.symm, fun h => h.symm⟩)
theorem shaped_int (n : Int) : SeqAt.shaped (.int n) = true := by
  unfold SeqAt.shaped
  rw [PyData.canLay0, PyData.depth]; rfl
theorem in_ints (x : Int) (ns : List Int) : fIn (.int x) (dT ns) = some (.bool (ns.contains x)) := by
  unfold fIn isIn dT items
  rw [Option.bind_some, shaped_int, shaped_intsT, any_eqv]; rfl
theorem eqD_int (a b : Int) : eqD (.int a) (.int b) = some (a == b) := by
  unfold eqD
  simp only [shaped_int, Bool.and_self, if_true, eqv_int]

/-! ### how long a display is -/
mutual
/-- a bound of the text's length -/
def wt : D → Nat
  | .none => 4
  | .bool _ => 5
  | .int _ => 700
  | .str _ => 1000000000
  | .list ds => wts ds + 4
  | .tuple ds => wts ds + 4
  | .dict _ => 1000000000
def wts : List D → Nat
  | [] => 0
  | d :: r => wt d + 2 + wts r
end
end FL

namespace FL
open PySem L2

/-! ### stepping a reading -/
section
variable {π : Type} {σ : Sg} {p p1 p2 p' : π} {α β : SE π} {φ ψ : SB π} {ω : SL π} {d x y z : D} {ds es : List D} {f : D → D → Option D} {g : List D → Option D} {i n m : Nat} {c : Bool}
theorem e_var (h : σ[i]? = some (.val d)) : xVar i σ p = some (d, p) := by unfold xVar; rw [h]
theorem e_c : xC d σ p = some (d, p) := rfl
theorem e_bin (h1 : α σ p = some (x, p1)) (h2 : β σ p1 = some (y, p2)) (h3 : f x y = some z) : xBin f α β σ p = some (z, p2) := by
  unfold xBin
  rw [h1]
  show ((β σ p1).bind _) = _
  rw [h2]
  show ((f x y).map _) = _
  rw [h3]; rfl
theorem e_un {f : D → Option D} (h1 : α σ p = some (x, p1)) (h3 : f x = some z) : xUn f α σ p = some (z, p1) := by
  unfold xUn
  rw [h1]
  show ((f x).map _) = _
  rw [h3]; rfl
theorem e_test (h : α σ p = some (.bool c, p1)) : xTest α σ p = some (c, p1) := by unfold xTest; rw [h]; rfl
theorem e_or_t (h : φ σ p = some (true, p1)) : xOr φ ψ σ p = some (true, p1) := by unfold xOr; rw [h]; rfl
theorem e_or_f (h : φ σ p = some (false, p1)) (h2 : ψ σ p1 = some (c, p2)) : xOr φ ψ σ p = some (c, p2) := by unfold xOr; rw [h]; exact h2
theorem e_and_f (h : φ σ p = some (false, p1)) : xAnd φ ψ σ p = some (false, p1) := by unfold xAnd; rw [h]; rfl
theorem e_and_t (h : φ σ p = some (true, p1)) (h2 : ψ σ p1 = some (c, p2)) : xAnd φ ψ σ p = some (c, p2) := by unfold xAnd; rw [h]; exact h2
theorem e_not (h : φ σ p = some (c, p1)) : xNot φ σ p = some (!c, p1) := by unfold xNot; rw [h]; rfl
theorem e_if_t (h : φ σ p = some (true, p1)) (h2 : α σ p1 = some (x, p2)) : xIf φ α β σ p = some (x, p2) := by unfold xIf; rw [h]; exact h2
theorem e_if_f (h : φ σ p = some (false, p1)) (h2 : β σ p1 = some (x, p2)) : xIf φ α β σ p = some (x, p2) := by unfold xIf; rw [h]; exact h2
theorem a_nil : aNil σ p = some ([], p) := rfl
theorem a_cons (h : α σ p = some (x, p1)) (h2 : ω σ p1 = some (ds, p2)) : aCons α ω σ p = some (x :: ds, p2) := by
  unfold aCons
  rw [h]
  show ((ω σ p1).map _) = _
  rw [h2]; rfl
theorem a_one (h : α σ p = some (x, p1)) : aCons α aNil σ p = some ([x], p1) := a_cons h a_nil
theorem e_tup (h : ω σ p = some (ds, p1)) (hl : ds.length ≤ sizeLine) : xTup ω σ p = some (.tuple ds, p1) := by
  unfold xTup
  rw [h]
  exact if_pos hl
theorem l_disp (h : ω σ p = some (ds, p1)) (hl : ds.length ≤ sizeLine) : lDisp ω σ p = some (ds, p1) := by
  unfold lDisp
  rw [h]
  exact if_pos hl
theorem e_L (h : ω σ p = some (ds, p1)) : xLst ω σ p = some (.list ds, p1) := by unfold xLst; rw [h]; rfl
theorem e_call (h : ω σ p = some (ds, p1)) (h2 : g ds = some z) : xCall g ω σ p = some (z, p1) := by
  unfold xCall
  rw [h]
  show ((g ds).map _) = _
  rw [h2]; rfl
theorem l_call {g : List D → Option (List D)} (h : ω σ p = some (ds, p1)) (h2 : g ds = some es) : lCall g ω σ p = some (es, p1) := by
  unfold lCall
  rw [h]
  show ((g ds).map _) = _
  rw [h2]; rfl
theorem l_bin {f : D → D → Option (List D)} (h1 : α σ p = some (x, p1)) (h2 : β σ p1 = some (y, p2)) (h3 : f x y = some es) : lBin f α β σ p = some (es, p2) := by
  unfold lBin
  rw [h1]
  show ((β σ p1).bind _) = _
  rw [h2]
  show ((f x y).map _) = _
  rw [h3]; rfl
theorem e_Z {f : List D → π → Option (D × π)} (h0 : σ[i]? = some .pot) (h : ω σ p = some (ds, p1)) (hn : ds.length + 1 = n) (h2 : f ds p1 = some (z, p2)) : xFunZ n i f ω σ p = some (z, p2) := by
  unfold xFunZ
  rw [h0]
  show ((ω σ p).bind _) = _
  rw [h]
  show (if ds.length + 1 = n then _ else _) = _
  rw [if_pos hn, h2]
theorem i_of (h : α σ p = some (x, p1)) (h2 : items x = some ds) : iOf α σ p = some (ds, p1) := by
  unfold iOf
  rw [h]
  show ((items x).map _) = _
  rw [h2]; rfl
theorem i_by {f : List D → Option (List D)} (h : ω σ p = some (ds, p1)) (h2 : f ds = some es) : iBy f ω σ p = some (es, p1) := by
  unfold iBy
  rw [h]
  show ((f ds).map _) = _
  rw [h2]; rfl
theorem len_is (hn : ds.length = n) (h : g ds = some z) : lenIs n g ds = some z := by unfold lenIs; rw [if_pos hn, h]
theorem kw_is {ix : List Nat} (hm : ds.length = m) (hp : permD ix ds = es) (hn : es.length = n) (h : g es = some z) : kwF n ix m g ds = some z := by
  unfold kwF
  rw [if_pos hm, hp, len_is hn h]
theorem run_P {ψ : SS Unit} (h : Ends ψ (ds.map .val ++ List.replicate (m - ds.length) .un) () fun o => outD (some o) = some (d, ())) : runP m ψ ds = some d := by
  obtain ⟨o, h1, h2⟩ := h
  unfold runP
  rw [h1, h2]; rfl
theorem run_Z {ψ : SS π} {R : D → π → Prop} (h : Ends ψ (.pot :: ds.map .val ++ List.replicate (m - (ds.length + 1)) .un) p fun o => ∃ d p', outD (some o) = some (d, p') ∧ R d p') : ∃ d p', runZ m ψ ds p = some (d, p') ∧ R d p' := by
  obtain ⟨o, h1, d, p', h2, h3⟩ := h
  exact ⟨d, p', by unfold runZ; rw [h1, h2], h3⟩
/-- the end of a loop's turn -/
theorem ends_mono {ψ : SS π} {R S : Out π → Prop} (h : Ends ψ σ p R) (k : ∀ o, R o → S o) : Ends ψ σ p S := by
  obtain ⟨o, h1, h2⟩ := h
  exact ⟨o, h1, k o h2⟩
end
theorem sml {a b : Nat} (h : Nat.ble a b = true) : a ≤ b := Nat.le_of_ble_eq_true h
theorem set_get {σ : Sg} {i : Nat} {s : Sl} (h : i < σ.length) : (σ.set i s)[i]? = some s := by rw [List.getElem?_set_self h]

/-! ### texts -/
def Rp (d : D) (n k : Nat) : Prop := d.showable = true ∧ d.hasDict = false ∧ d.depth ≤ k ∧ d.shown.length ≤ n
theorem Rp.mono {d : D} {n k n' k' : Nat} (h : Rp d n k) (hn : n ≤ n') (hk : k ≤ k') : Rp d n' k' := ⟨h.1, h.2.1, Nat.le_trans h.2.2.1 hk, Nat.le_trans h.2.2.2 hn⟩
theorem Rp.repr {d : D} {n k : Nat} (h : Rp d n k) (hn : n ≤ sizeLine) (hk : k ≤ 64) : fRepr [d] = some (.str d.shown) := by
  unfold fRepr
  exact if_pos ⟨h.1, h.2.1, Nat.le_trans h.2.2.1 hk, Nat.le_trans h.2.2.2 hn⟩
theorem Rp.int {i : Int} (h : i.natAbs < 2 ^ 60) : Rp (.int i) 62 0 := by
  have h2 : i.natAbs.log2 < 60 := by
    by_cases z : i.natAbs = 0
    · rw [z]; decide
    · exact (Nat.log2_lt z).mpr h
  refine ⟨?_, rfl, Nat.le_refl _, ?_⟩
  · unfold PyData.showable
    exact decide_eq_true (by omega)
  · have := int_text_length_le (a := i) (k := 60) (by decide) h2
    unfold PyData.shown
    exact Nat.le_trans (Nat.le_of_eq (PySem.ofString_length _)) (by omega)
theorem Rp.bool {b : Bool} : Rp (.bool b) 62 0 := by
  refine ⟨rfl, rfl, Nat.le_refl _, ?_⟩
  cases b <;> decide
theorem piled_le {n k : Nat} : ∀ ds : List D, (∀ x ∈ ds, Rp x n k) → piled (PyData.shownAll ds) ≤ ds.length * (n + 2) ∧ PyData.showableAll ds = true ∧ PyData.hasDictAll ds = false ∧ PyData.depthAll ds ≤ k
  | [], _ => ⟨by simp [PyData.shownAll, piled], by simp [PyData.showableAll], by simp [PyData.hasDictAll], by simp [PyData.depthAll]⟩
  | x :: r, h => by
    obtain ⟨h1, h2, h3, h4⟩ := piled_le r fun y hy => h y (List.mem_cons_of_mem _ hy)
    obtain ⟨g1, g2, g3, g4⟩ := h x List.mem_cons_self
    refine ⟨?_, ?_, ?_, ?_⟩
    · rw [PyData.shownAll, piled_cons, List.length_cons, Nat.succ_mul]
      omega
    · rw [PyData.showableAll, g1, h2]; rfl
    · rw [PyData.hasDictAll, g2, h3]; rfl
    · rw [PyData.depthAll]
      omega
theorem join_le : ∀ ts : List Str, (Str.join ", " ts).length ≤ piled ts
  | [] => Nat.zero_le _
  | t :: r => by
    have := join_length_add (t :: r) (by simp)
    omega
theorem Rp.tuple {ds : List D} {n k m : Nat} (h : ∀ x ∈ ds, Rp x n k) (hm : ds.length ≤ m) : Rp (.tuple ds) (m * (n + 2) + 3) (k + 1) := by
  obtain ⟨h1, h2, h3, h4⟩ := piled_le ds h
  refine ⟨by rw [PyData.showable, h2], by rw [PyData.hasDict, h3], by rw [PyData.depth]; omega, ?_⟩
  have h5 := join_le (PyData.shownAll ds)
  have h6 := Nat.mul_le_mul_right (n + 2) hm
  rw [PyData.shown]
  unfold tupleText
  rw [strLen_append, strLen_append]
  have e1 : (("(" : String) : Str).length = 1 := rfl
  have e2 : ((if (PyData.shownAll ds).length == 1 then ",)" else ")" : String) : Str).length ≤ 2 := by split <;> decide
  omega
theorem textFrom_le : ∀ (ts : List Str) (k : Nat) (acc : Str), (textFrom k acc ts).length ≤ acc.length + piled ts
  | [], _, _ => Nat.le_add_right _ _
  | t :: r, k, acc => by
    have h := textFrom_le r (k + 1) (acc ++ (if k > 0 then ", " else "" : String) ++ t)
    have e : (acc ++ (if k > 0 then ", " else "" : String) ++ t).length = acc.length + (if k > 0 then 2 else 0) + t.length := by
      rw [strLen_append, strLen_append]
      split <;> rfl
    rw [e] at h
    rw [piled_cons]
    show (textFrom (k + 1) (acc ++ (if k > 0 then ", " else "" : String) ++ t) r).length ≤ _
    have e2 : (if k > 0 then 2 else 0) ≤ 2 := by split <;> decide
    omega
theorem Rp.list {ds : List D} {n k m : Nat} (h : ∀ x ∈ ds, Rp x n k) (hm : ds.length ≤ m) : Rp (.list ds) (m * (n + 2) + 3) (k + 1) := by
  obtain ⟨h1, h2, h3, h4⟩ := piled_le ds h
  refine ⟨by rw [PyData.showable, h2], by rw [PyData.hasDict, h3], by rw [PyData.depth]; omega, ?_⟩
  have h5 := textFrom_le (PyData.shownAll ds) 0 "["
  have h6 := Nat.mul_le_mul_right (n + 2) hm
  rw [PyData.shown]
  unfold listText
  rw [strLen_append]
  have e1 : (("[" : String) : Str).length = 1 := rfl
  have e2 : (("]" : String) : Str).length = 1 := rfl
  omega
theorem Rp.ints {ns : List Int} {m : Nat} (h : ∀ x ∈ ns, x.natAbs < 2 ^ 60) (hm : ns.length ≤ m) : Rp (dT ns) (m * 64 + 3) 1 := by
  unfold dT
  exact Rp.tuple (n := 62) (k := 0) (fun x hx => by
    obtain ⟨i, hi, rfl⟩ := List.mem_map.mp hx
    exact Rp.int (h i hi)) (by rw [List.length_map]; exact hm)
theorem Rp.lots {l : List (List Int)} {m q : Nat} (h : ∀ s ∈ l, s.length ≤ m ∧ ∀ x ∈ s, x.natAbs < 2 ^ 60) (hm : l.length ≤ q) : Rp (dTs l) (q * (m * 64 + 5) + 3) 2 := by
  unfold dTs
  exact Rp.tuple (n := m * 64 + 3) (k := 1) (fun x hx => by
    obtain ⟨s, hs, rfl⟩ := List.mem_map.mp hx
    exact Rp.ints (h s hs).2 (h s hs).1) (by rw [List.length_map]; exact hm)
theorem ne_self (s : Str) : fNe (.str s) (.str s) = some (.bool false) := by
  unfold fNe eqD
  simp
theorem eq_int (a b : Int) : fEq (.int a) (.int b) = some (.bool (a == b)) := by unfold fEq; rw [eqD_int]; rfl
theorem ne_int (a b : Int) : fNe (.int a) (.int b) = some (.bool (!(a == b))) := by unfold fNe; rw [eqD_int]; rfl
theorem ne_int_self (a : Int) : fNe (.int a) (.int a) = some (.bool false) := by rw [ne_int]; simp
theorem mul_small {a b : Int} (h : a.natAbs < 2 ^ 64) : fMul (.int a) (.int b) = some (.int (a * b)) := by
  unfold fMul mulOk
  simp [h]

/-! ### ranges -/
def rng (n : Nat) : List Int := (List.range n).map fun k => ((k : Nat) : Int)
theorem rngL0 (n : Nat) : rngL 0 n = (rng n).map .int := by
  unfold rngL rng
  rw [List.map_map]
  exact List.map_congr_left fun k _ => by simp
theorem rng_len (n : Nat) : (rng n).length = n := by unfold rng; simp
theorem rng_mem {n : Nat} {x : Int} : x ∈ rng n ↔ 0 ≤ x ∧ x < n := by
  unfold rng
  rw [List.mem_map]
  constructor
  · rintro ⟨k, hk, rfl⟩
    rw [List.mem_range] at hk
    omega
  · intro ⟨h1, h2⟩
    exact ⟨x.toNat, by rw [List.mem_range]; omega, by omega⟩
theorem rng_nodup (n : Nat) : (rng n).Nodup := by
  unfold rng
  rw [List.nodup_iff_pairwise_ne, List.pairwise_map]
  exact List.nodup_range.imp fun h e => h (Int.ofNat.inj e)
theorem rng_get {n i : Nat} (h : i < n) : (rng n)[i]? = some (i : Int) := by
  unfold rng
  rw [List.getElem?_map, List.getElem?_range h]; rfl
theorem rng_f {n : Nat} (h : n < 2 ^ 62) : rngF1 [.int n] = some ((rng n).map .int) := by
  unfold rngF1
  show (if _ then some (rngL 0 (Int.toNat n)) else none) = _
  rw [if_pos (by omega), Int.toNat_natCast, rngL0]
theorem rng_fi {n : Int} (h0 : 0 ≤ n) (h : n < 2 ^ 62) : rngF1 [.int n] = some ((rng n.toNat).map .int) := by
  have := rng_f (n := n.toNat) (by omega)
  rwa [show ((n.toNat : Nat) : Int) = n by omega] at this

/-! ### sums and greatest -/
theorem sum_ints (ns : List Int) : fSum [dT ns] = some (.int ns.sum) := by
  show (intsOf (ns.map .int)).map _ = _
  rw [intsOf_map]; rfl
theorem sum_intsL (ns : List Int) : fSum [.list (ns.map .int)] = some (.int ns.sum) := by
  show (intsOf (ns.map .int)).map _ = _
  rw [intsOf_map]; rfl
def mostOf : List Int → Int
  | [] => 0
  | n :: r => r.foldl max n
theorem max_ints {ns : List Int} (h : ns ≠ []) : fMax [dT ns] = some (.int (mostOf ns)) := by
  cases ns with
  | nil => exact absurd rfl h
  | cons n r =>
    show maxL ((n :: r).map .int) = _
    rw [maxL_ints]; rfl
theorem max_intsL {ns : List Int} (h : ns ≠ []) : fMax [.list (ns.map .int)] = some (.int (mostOf ns)) := by
  cases ns with
  | nil => exact absurd rfl h
  | cons n r =>
    show maxL ((n :: r).map .int) = _
    rw [maxL_ints]; rfl
theorem foldl_max_bd {lo hi : Int} : ∀ (r : List Int) (n : Int), lo ≤ n → n ≤ hi → (∀ x ∈ r, x ≤ hi) → lo ≤ r.foldl max n ∧ r.foldl max n ≤ hi
  | [], n, h1, h2, _ => ⟨h1, h2⟩
  | x :: r, n, h1, h2, h => by
    rw [List.foldl_cons]
    have := h x List.mem_cons_self
    exact foldl_max_bd r (max n x) (by omega) (by omega) fun y hy => h y (List.mem_cons_of_mem _ hy)
theorem most_bd {lo hi : Int} {ns : List Int} (h : ns ≠ []) (hb : ∀ x ∈ ns, lo ≤ x ∧ x ≤ hi) : lo ≤ mostOf ns ∧ mostOf ns ≤ hi := by
  cases ns with
  | nil => exact absurd rfl h
  | cons n r => exact foldl_max_bd r n (hb n List.mem_cons_self).1 (hb n List.mem_cons_self).2 fun x hx => (hb x (List.mem_cons_of_mem _ hx)).2
theorem foldl_max_two : ∀ (r : List Int) (n : Int), (r.map (2 * ·)).foldl max (2 * n) = 2 * r.foldl max n
  | [], _ => rfl
  | x :: r, n => by
    rw [List.map_cons, List.foldl_cons, List.foldl_cons, show max (2 * n) (2 * x) = 2 * max n x by omega]
    exact foldl_max_two r _
theorem most_two (ns : List Int) : mostOf (ns.map (2 * ·)) = 2 * mostOf ns := by
  cases ns with
  | nil => rfl
  | cons n r => exact foldl_max_two r n
theorem tuple_map {κ : Type} (l : List κ) (f : κ → D) : fTuple [.list (l.map f)] = some (.tuple (l.map f)) := rfl
theorem len_list (ds : List D) : fLen [.list ds] = some (.int ds.length) := rfl
theorem len_tup (ds : List D) : fLen [.tuple ds] = some (.int ds.length) := rfl

theorem ixN_of {n : Nat} {k : Int} (h0 : 0 ≤ k) (h1 : k < n) : ixN n k = some k.toNat := by
  unfold ixN
  rw [if_pos h0, if_pos h1]
theorem atI_map {κ : Type} {l : List κ} {f : κ → D} {k : Int} (h0 : 0 ≤ k) (h1 : k < l.length) : atI (l.map f) k = some (f (l[k.toNat]'(by omega))) := by
  unfold atI
  rw [List.length_map, ixN_of h0 h1]
  show (l.map f)[k.toNat]? = _
  rw [List.getElem?_map, List.getElem?_eq_getElem (by omega)]; rfl
theorem ix_list {κ : Type} {l : List κ} {f : κ → D} {k : Int} (h0 : 0 ≤ k) (h1 : k < l.length) : fIx (.list (l.map f)) (.int k) = some (f (l[k.toNat]'(by omega))) := atI_map h0 h1
theorem ix_tup {κ : Type} {l : List κ} {f : κ → D} {k : Int} (h0 : 0 ≤ k) (h1 : k < l.length) : fIx (.tuple (l.map f)) (.int k) = some (f (l[k.toNat]'(by omega))) := atI_map h0 h1

/-! ### lots -/
theorem sub_filter {L l : List Int} (h : l.Sublist L) (hn : L.Nodup) : L.filter (fun x => l.contains x) = l := by
  induction h with
  | slnil => rfl
  | @cons l L x h ih =>
    rw [List.nodup_cons] at hn
    rw [List.filter_cons, if_neg, ih hn.2]
    intro z
    exact hn.1 (h.subset (List.contains_iff_mem.mp z))
  | @cons_cons l L x h ih =>
    rw [List.nodup_cons] at hn
    rw [List.filter_cons, if_pos (by simp)]
    congr 1
    conv => rhs; rw [← ih hn.2]
    refine List.filter_congr fun y hy => ?_
    rw [List.contains_cons]
    have : (y == x) = false := by
      rw [beq_eq_false_iff_ne]
      intro e
      exact hn.1 (e ▸ hy)
    rw [this, Bool.false_or]
def cntIn (lots : List (List Int)) (x : Int) : Nat := (lots.filter fun l => l.contains x).length
def cnts (n : Nat) (lots : List (List Int)) : List Int := (rng n).map fun x => ((cntIn lots x : Nat) : Int)
theorem cnts_len (n : Nat) (lots : List (List Int)) : (cnts n lots).length = n := by unfold cnts; rw [List.length_map, rng_len]
theorem cnts_bd {n : Nat} {lots : List (List Int)} {x : Int} (h : x ∈ cnts n lots) : 0 ≤ x ∧ x ≤ lots.length := by
  unfold cnts at h
  obtain ⟨y, _, rfl⟩ := List.mem_map.mp h
  have := List.length_filter_le (fun l : List Int => l.contains y) lots
  unfold cntIn
  omega
theorem cnts_ne {n : Nat} {lots : List (List Int)} (h : 0 < n) : cnts n lots ≠ [] := by
  intro e
  have := cnts_len n lots
  rw [e] at this
  simp at this
  omega
theorem cnts_two (n : Nat) (lots : List (List Int)) : cnts n (lots ++ lots) = (cnts n lots).map (2 * ·) := by
  unfold cnts
  rw [List.map_map]
  refine List.map_congr_left fun x _ => ?_
  show ((cntIn (lots ++ lots) x : Nat) : Int) = 2 * ((cntIn lots x : Nat) : Int)
  unfold cntIn
  rw [List.filter_append, List.length_append]
  omega
theorem sum_map_add {κ : Type} (f g : κ → Int) : ∀ l : List κ, (l.map fun x => f x + g x).sum = (l.map f).sum + (l.map g).sum
  | [] => rfl
  | x :: r => by
    rw [List.map_cons, List.map_cons, List.map_cons, List.sum_cons, List.sum_cons, List.sum_cons, sum_map_add f g r]
    omega
theorem sum_ind (q : Int → Bool) : ∀ l : List Int, (l.map fun x => if q x = true then (1 : Int) else 0).sum = ((l.filter q).length : Nat)
  | [] => rfl
  | x :: r => by
    rw [List.map_cons, List.sum_cons, sum_ind q r, List.filter_cons]
    split <;> simp <;> omega
theorem cnts_sum {n : Nat} : ∀ lots : List (List Int), (∀ l ∈ lots, l.Sublist (rng n)) → (cnts n lots).sum = (lots.map fun l => ((l.length : Nat) : Int)).sum
  | [], _ => by
    unfold cnts cntIn
    simp only [List.filter_nil, List.length_nil, List.map_nil]
    generalize rng n = L
    induction L with
    | nil => rfl
    | cons x r ih => rw [List.map_cons, List.sum_cons, ih]; rfl
  | l :: r, h => by
    have ih := cnts_sum r fun s hs => h s (List.mem_cons_of_mem _ hs)
    have e : cnts n (l :: r) = (rng n).map fun x => (if l.contains x = true then (1 : Int) else 0) + ((cntIn r x : Nat) : Int) := by
      unfold cnts
      refine List.map_congr_left fun x _ => ?_
      unfold cntIn
      rw [List.filter_cons]
      split <;> simp <;> omega
    rw [e, sum_map_add, List.map_cons, List.sum_cons, sum_ind, sub_filter (h l List.mem_cons_self) (rng_nodup n)]
    unfold cnts at ih
    rw [ih]
end FL

namespace FL
open PySem PySem.Spec PyProof.Rows L2

/-! ### slices -/
abbrev SO (π : Type) := Sg → π → Option (Option Int × π)
def SemO {π : Type} (K : PySem.W.Frag) (Z : PotK π) (t : TO) (φ : SO π) : Prop :=
  ∀ (F : Fx) (B : Hp) (vs : L2.St) (H : Hp) (σ : Sg) (p : π) (o : Option Int) (p' : π) (Q : Option Int → Hp → Prop),
    Rep K Z F B vs H σ p → φ σ p = some (o, p') →
    (∀ H' B', Same B B' → Rep K Z F B' vs H' σ p' → Q o H') → t vs H Q
structure FO {π : Type} (S : Sta) (N : List Str) (sc : Scope) (Z : PotK π) (e : Option Expr) (φ : SO π) : Prop where
  ex : ∃ t, (∀ X, Fam S N sc X → PO X e t) ∧ SemO S.K Z t φ
def cutD (ds : List D) (lo hi : Option Int) : List D := (ds.drop (HT.sIx ds.length 0 lo)).take (HT.sIx ds.length ds.length hi - HT.sIx ds.length 0 lo)
theorem cutD_of {K : PySem.W.Frag} {B : Hp} {xs : List V} {ds : List D} (h : DqAll K B xs ds) (lo hi : Option Int) : DqAll K B (cutV xs lo hi) (cutD ds lo hi) := by
  unfold cutV cutD
  rw [DqAll.len h]
  exact (h.rest _).cut _
theorem cutD_whole {ds : List D} {lo hi : Option Int} (h : HT.sIx ds.length 0 lo = 0 ∧ HT.sIx ds.length ds.length hi = ds.length) : cutD ds lo hi = ds := by
  unfold cutD
  rw [h.1, h.2]
  simp
def fSlice (d : D) (lo hi : Option Int) : Option D := match d with
  | .tuple ds => some (.tuple (cutD ds lo hi))
  | _ => none
def fSliceL (d : D) (lo hi : Option Int) : Option (List D) := match d with
  | .list ds => some (cutD ds lo hi)
  | _ => none
section
variable {π : Type} {Z : PotK π} {S : Sta} {N : List Str} {sc : Scope} {e a b : Expr} {es : List Expr} {pos p2 : Pos} {α β : SE π} {u v : SO π} {lo hi : Option Expr}
def oNone : SO π := fun _ p => some (none, p)
def oSome (α : SE π) : SO π := fun σ p => (α σ p).bind fun x => match x.1 with
  | .int i => some (some i, x.2)
  | _ => none
theorem fo_none : FO S N sc Z none oNone := ⟨_, fun _ _ => po_none, fun F B vs H σ p o p' Q r e k => by
  cases e
  exact k H B (Same.refl B) r⟩
theorem fo_some (h : FE S N sc Z e α) : FO S N sc Z (some e) (oSome α) := by
  obtain ⟨t, h1, h2⟩ := h.ex
  refine ⟨_, fun X hX => po_some (h1 X hX), fun F B vs H σ p o p' Q r q k => ?_⟩
  obtain ⟨⟨x, p1⟩, e1, q⟩ := bnd q
  refine h2 F B vs H σ p x p1 _ r e1 fun w H1 B1 s1 r1 d1 => ?_
  cases x with
  | int i =>
    cases q
    cases d1
    exact ⟨i, rfl, k H1 B1 s1 r1⟩
  | _ => cases q
def xSlice (α : SE π) (u v : SO π) : SE π := fun σ p => (α σ p).bind fun x => (u σ x.2).bind fun y => (v σ y.2).bind fun z => (fSlice x.1 y.1 z.1).map fun w => (w, z.2)
def lSlice (α : SE π) (u v : SO π) : SL π := fun σ p => (α σ p).bind fun x => (u σ x.2).bind fun y => (v σ y.2).bind fun z => (fSliceL x.1 y.1 z.1).map fun w => (w, z.2)
theorem fe_slice (he : FE S N sc Z e α) (hl : FO S N sc Z lo u) (hu : FO S N sc Z hi v) : FE S N sc Z (.Subscript e (.Slice lo hi none p2) pos) (xSlice α u v) := by
  obtain ⟨te, a1, a2⟩ := he.ex
  obtain ⟨tl, b1, b2⟩ := hl.ex
  obtain ⟨th, c1, c2⟩ := hu.ex
  refine ⟨tSl (rSlA S.K) te tl th, fun X hX => by
    have hK : X.K = S.K := by obtain ⟨_, _, _, _, _, _, _, _, _, _, rfl⟩ := hX; rfl
    rw [← hK]
    exact pe_slice sl_tupA (a1 X hX) (b1 X hX) (c1 X hX), fun F B vs H σ p d p' Q r q k => ?_⟩
  obtain ⟨⟨x, p1⟩, e1, q⟩ := bnd q
  obtain ⟨⟨y, p2⟩, e2, q⟩ := bnd q
  obtain ⟨⟨z, p3⟩, e3, q⟩ := bnd q
  obtain ⟨w, e4, q⟩ := mpd q
  cases q
  refine a2 F B vs H σ p x p1 _ r e1 fun v1 H1 B1 s1 r1 d1 => ?_
  refine b2 F B1 vs H1 σ p1 y p2 _ r1 e2 fun H2 B2 s2 r2 => ?_
  refine c2 F B2 vs H2 σ p2 z p3 _ r2 e3 fun H3 B3 s3 r3 => ?_
  have d3 := Dq_up (s2.trans s3) _ _ d1
  cases x with
  | tuple ds =>
    cases e4
    cases d3 with
    | @tup a xs _ h1 h2 =>
      refine ⟨a, xs, rfl, sq_t r3.sub h1, fun hw => ?_, fun hw q hq => ?_⟩
      · refine k _ H3 B3 ((s1.trans s2).trans s3) r3 ?_
        rw [cutD_whole (by rw [← DqAll.len h2]; exact hw)]
        exact .tup h1 h2
      · have gr := Gr.new r3.sub (o := .tup (cutV xs y z)) hq
        exact k _ _ _ (((s1.trans s2).trans s3).trans gr.b) (r3.grow gr) (.tup (SqT.of upd_same) (DqA_up gr.b _ _ (cutD_of h2 y z)))
  | _ => cases e4
theorem fl_slice (he : FE S N sc Z e α) (hl : FO S N sc Z lo u) (hu : FO S N sc Z hi v) : FL S N sc Z (.Subscript e (.Slice lo hi none p2) pos) (lSlice α u v) := by
  obtain ⟨te, a1, a2⟩ := he.ex
  obtain ⟨tl, b1, b2⟩ := hl.ex
  obtain ⟨th, c1, c2⟩ := hu.ex
  refine ⟨tSl (rSlL S.K) te tl th, fun X hX => by
    have hK : X.K = S.K := by obtain ⟨_, _, _, _, _, _, _, _, _, _, rfl⟩ := hX; rfl
    rw [← hK]
    exact pe_slice sl_list (a1 X hX) (b1 X hX) (c1 X hX), fun F B vs H σ p ds p' Q r q k => ?_⟩
  obtain ⟨⟨x, p1⟩, e1, q⟩ := bnd q
  obtain ⟨⟨y, p2⟩, e2, q⟩ := bnd q
  obtain ⟨⟨z, p3⟩, e3, q⟩ := bnd q
  obtain ⟨w, e4, q⟩ := mpd q
  cases q
  refine a2 F B vs H σ p x p1 _ r e1 fun v1 H1 B1 s1 r1 d1 => ?_
  refine b2 F B1 vs H1 σ p1 y p2 _ r1 e2 fun H2 B2 s2 r2 => ?_
  refine c2 F B2 vs H2 σ p2 z p3 _ r2 e3 fun H3 B3 s3 r3 => ?_
  have d3 := Dq_up (s2.trans s3) _ _ d1
  cases x with
  | list ds =>
    cases e4
    cases d3 with
    | @lst a xs _ h1 h2 =>
      refine ⟨a, xs, rfl, SqL.of (r3.sub _ _ h1), fun q hq => ?_⟩
      exact k q _ B3 ((s1.trans s2).trans s3) (newL_of r3 (Gr.lay r3.sub hq) hq (r3.sub.free hq) upd_same (cutD_of h2 y z))
  | _ => cases e4
end
/-! ### a list of one's own, looked at -/
def hid : Sl → Sl
  | .own _ => .un
  | s => s
def shw : Sl → Sl
  | .own ds => .val (.list ds)
  | s => s
def borS : Nat → Sg → Sg
  | _, [] => []
  | 0, s :: r => shw s :: r.map hid
  | n + 1, s :: r => hid s :: borS n r
theorem hid_get (r : Sg) (j : Nat) (s : Sl) (h : (r.map hid)[j]? = some s) : r[j]? = some s ∨ s = .un := by
  rw [List.getElem?_map] at h
  obtain ⟨t, h1, h2⟩ := mpd h
  cases t with
  | own _ => exact .inr h2.symm
  | _ => left; rw [h1]; exact congrArg some h2
theorem hid_own (s : Sl) (ds : List D) : hid s ≠ .own ds := by cases s <;> (intro e; cases e)
theorem bor_get : ∀ (n : Nat) (σ : Sg) (ds : List D), σ[n]? = some (.own ds) → (borS n σ).length = σ.length ∧ ∀ (j : Nat) (s : Sl), (borS n σ)[j]? = some s → (j = n ∧ s = .val (.list ds)) ∨ ((∀ es, s ≠ .own es) ∧ (σ[j]? = some s ∨ s = .un))
  | 0, .own es :: r, ds, h => by
    cases h
    refine ⟨by simp [borS], fun j s hj => ?_⟩
    cases j with
    | zero => cases hj; exact .inl ⟨rfl, rfl⟩
    | succ j =>
      have hj : (r.map hid)[j]? = some s := hj
      refine .inr ⟨fun es e => ?_, hid_get r j s hj⟩
      rw [List.getElem?_map] at hj
      obtain ⟨t, _, h2⟩ := mpd hj
      exact hid_own t es (h2.trans e)
  | n + 1, t :: r, ds, h => by
    obtain ⟨h1, h2⟩ := bor_get n r ds h
    refine ⟨by simp [borS, h1], fun j s hj => ?_⟩
    cases j with
    | zero =>
      have hj : some (hid t) = some s := hj
      cases hj
      refine .inr ⟨fun es => hid_own t es, ?_⟩
      cases t with
      | own _ => exact .inr rfl
      | _ => exact .inl rfl
    | succ j =>
      rcases h2 j s hj with ⟨z, w⟩ | z
      · exact .inl ⟨by rw [z], w⟩
      · exact .inr z
mutual
/-- no list in it -/
def flatD : D → Bool
  | .none => true
  | .bool _ => true
  | .int _ => true
  | .str _ => true
  | .list _ => false
  | .tuple ds => flatAll ds
  | .dict _ => false
def flatAll : List D → Bool
  | [] => true
  | d :: ds => flatD d && flatAll ds
end
def minus (B : Hp) (a : Addr) : Hp := fun b => if b = a then none else B b
theorem minus_ne {B : Hp} {a b : Addr} (h : b ≠ a) : minus B a b = B b := by unfold minus; rw [if_neg h]
theorem minus_same {B : Hp} {a : Addr} : minus B a a = none := by unfold minus; rw [if_pos rfl]
theorem sq_minus {K : PySem.W.Frag} {B : Hp} {a c : Addr} {ys xs : List V} (ha : B a = some (.lst ys)) (h : SqT K B c xs) : SqT K (minus B a) c xs := by
  rcases h with (h | ⟨o, h⟩) | h
  · have n : c ≠ a := fun z => by rw [z, ha] at h; cases h
    exact .inl (.inl (by rw [minus_ne n]; exact h))
  · have n : c ≠ a := fun z => by rw [z, ha] at h; cases h
    exact .inl (.inr ⟨o, by rw [minus_ne n]; exact h⟩)
  · exact .inr h
mutual
theorem Dq_minus {K : PySem.W.Frag} {B : Hp} {a : Addr} {ys : List V} (ha : B a = some (.lst ys)) : ∀ (d : D) (v : V), flatD d = true → Dq K B v d → Dq K (minus B a) v d
  | .none, _, _, h => by cases h; exact .non
  | .bool _, _, _, h => by cases h; exact .bl _
  | .int _, _, _, h => by cases h; exact .int _
  | .str _, _, _, h => by cases h; exact .str _
  | .list ds, _, f, h => by simp [flatD] at f
  | .tuple ds, _, f, h => by
    have f : flatAll ds = true := by simpa [flatD] using f
    cases h with
    | tup hs hd => exact .tup (sq_minus ha hs) (DqA_minus ha ds _ f hd)
  | .dict _, _, _, h => by cases h
theorem DqA_minus {K : PySem.W.Frag} {B : Hp} {a : Addr} {ys : List V} (ha : B a = some (.lst ys)) : ∀ (ds : List D) (vs : List V), flatAll ds = true → DqAll K B vs ds → DqAll K (minus B a) vs ds
  | [], _, _, h => by cases h; exact .nil
  | d :: ds, _, f, h => by
    have f : flatD d = true ∧ flatAll ds = true := by simpa [flatAll] using f
    cases h with
    | cons h1 h2 => exact .cons (Dq_minus ha d _ f.1 h1) (DqA_minus ha ds _ f.2 h2)
end
def xBor {π : Type} (i : Nat) (α : SE π) : SE π := fun σ p => match σ[i]? with
  | some (.own _) => (α (borS i σ) p).bind fun x => if flatD x.1 = true then some x else none
  | _ => none
theorem sem_bor {π : Type} {Z : PotK π} {K : PySem.W.Frag} {te : TE} {α : SE π} (i : Nat) (h : SemE K Z te α) : SemE K Z te (xBor i α) := by
  intro F B vs H σ p d p' Q r e k
  unfold xBor at e
  split at e
  case h_2 => cases e
  rename_i ds q
  obtain ⟨⟨x, p1⟩, e1, e⟩ := bnd e
  have e : (if flatD x = true then some (x, p1) else none) = some (d, p') := e
  split at e
  case isFalse => cases e
  rename_i hf
  cases e
  obtain ⟨a, xs, a1, a2, a3, a4, a5, a6⟩ := r.own i ds q
  have s1 : Same B (upd B a (.lst xs)) := Same.put a4
  obtain ⟨g1, g2⟩ := bor_get i σ ds q
  have afp : a ∉ Z.fp F.pa F.g := fun z => a6 (r.potN a z)
  have r2 : Rep K Z ⟨F.pa, F.g, fun b => F.N b ∨ ∃ j es, j ≠ i ∧ σ[j]? = some (.own es) ∧ vs[j]? = some (some (.ref b)), H⟩ (upd B a (.lst xs)) vs H (borS i σ) p := by
    refine ⟨fun b o e => ?_, fun b o _ e => e, r.pok, fun b h => .inl (r.potN b h), fun b h => ?_, fun b h => ?_, by rw [g1]; exact r.len, fun j d e => ?_, fun j es e => ?_, fun j e => ?_, fun j l b xs ys _ _ e _ => ?_⟩
    · by_cases z : b = a
      · subst z; rw [upd_same] at e; rw [← e]; exact a2
      · rw [upd_ne z] at e; exact r.sub b o e
    · rcases h with h | ⟨j, es, hj, hs, hv⟩
      · rw [upd_ne (show b ≠ a from fun z => a6 (by rw [← z]; exact h))]; exact r.noB b h
      · obtain ⟨c, ys, b1, b2, b3, b4, b5, b6⟩ := r.own j es hs
        rw [hv] at b1
        cases b1
        rw [upd_ne (show b ≠ a from fun z => hj (r.apart j i b es ds hv (by rw [z]; exact a1) hs q))]; exact b4
    · rcases h with h | ⟨j, es, hj, hs, hv⟩
      · exact r.noH b h
      · obtain ⟨c, ys, b1, b2, _⟩ := r.own j es hs
        rw [hv] at b1
        cases b1
        rw [b2]; simp
    · rcases g2 j _ e with ⟨z, w⟩ | ⟨_, z | z⟩
      · cases w
        subst z
        exact ⟨_, a1, .lst upd_same (DqA_up s1 ds xs a3)⟩
      · obtain ⟨v, b1, b2⟩ := r.val j _ z
        exact ⟨v, b1, Dq_up s1 _ _ b2⟩
      · cases z
    · rcases g2 j _ e with ⟨_, w⟩ | ⟨z, _⟩
      · cases w
      · exact absurd rfl (z es)
    · rcases g2 j _ e with ⟨_, w⟩ | ⟨_, z | z⟩
      · cases w
      · exact r.pot j z
      · cases z
    · rcases g2 j _ e with ⟨_, w⟩ | ⟨z, _⟩
      · cases w
      · exact absurd rfl (z xs)
  refine h _ _ vs H _ p d p' Q r2 e1 fun v H2 B2 s2 r3 d2 => ?_
  have keep : ∀ b o, b ∉ Z.fp F.pa F.g → H b = some o → H2 b = some o := fun b o n e => r3.old b o n e
  have hB2 : B2 a = some (.lst xs) := s2 a _ upd_same
  have s3 : Same B (minus B2 a) := fun b o e => by
    rw [minus_ne (ne_of_none e a4)]; exact s2 b o (s1 b o e)
  refine k v H2 (minus B2 a) s3 ⟨fun b o e => ?_, fun b o n e => keep b o n (r.old b o n e), r3.pok, r.potN, fun b hb => ?_, fun b hb => ?_, r.len, fun j d e => ?_, fun j es eo => ?_, r.pot, r.apart⟩ (Dq_minus hB2 d v hf d2)
  · by_cases z : b = a
    · rw [z, minus_same] at e; cases e
    · rw [minus_ne z] at e; exact r3.sub b o e
  · by_cases z : b = a
    · rw [z]; exact minus_same
    · rw [minus_ne z]; exact r3.noB b (.inl hb)
  · by_cases z : b ∈ Z.fp F.pa F.g
    · exact Z.trk F.pa F.g H2 p' r3.pok b z
    · cases e : H b with
      | none => exact absurd e (r.noH b hb)
      | some o => rw [keep b o z e]; simp
  · obtain ⟨v, b1, b2⟩ := r.val j d e
    exact ⟨v, b1, Dq_up s3 _ _ b2⟩
  · obtain ⟨c, ys, h1, h2, h3, h4, h5, h6⟩ := r.own j es eo
    refine ⟨c, ys, h1, keep c _ (fun z => h6 (r.potN c z)) h2, DqA_up s3 _ _ h3, ?_, h5, h6⟩
    by_cases z : j = i
    · subst z
      rw [q] at eo; cases eo
      rw [a1] at h1; cases h1
      exact minus_same
    · have hca : c ≠ a := fun w => z (r.apart j i c es ds h1 (by rw [w]; exact a1) eo q)
      rw [minus_ne hca]
      exact r3.noB c (.inr ⟨j, es, z, eo, h1⟩)
def xBorT {π : Type} (i : Nat) (φ : SB π) : SB π := fun σ p => match σ[i]? with
  | some (.own _) => φ (borS i σ) p
  | _ => none
theorem sem_borT {π : Type} {Z : PotK π} {K : PySem.W.Frag} {tt : TT} {φ : SB π} (i : Nat) (h : SemT K Z tt φ) : SemT K Z tt (xBorT i φ) := by
  have h1 : SemE K Z (fun σ H Q => tt σ H fun b H' => Q (.bl b) H') (fun σ p => (φ σ p).map fun x => (.bool x.1, x.2)) := by
    intro F B vs H σ p d p' Q r e k
    obtain ⟨⟨c, p1⟩, e1, e2⟩ := mpd e
    cases e2
    exact h F B vs H σ p c p1 _ r e1 fun H' B' s r' => k _ H' B' s r' (.bl c)
  intro F B vs H σ p b p' Q r e k
  have e2 : xBor i (fun σ p => (φ σ p).map fun x => (.bool x.1, x.2)) σ p = some (.bool b, p') := by
    unfold xBorT at e
    unfold xBor
    split at e
    · rename_i ds q
      show (((φ (borS i σ) p).map _).bind _) = _
      rw [e]; rfl
    · cases e
  exact sem_bor i h1 F B vs H σ p (.bool b) p' (fun v H' => match v with
    | .bl b => Q b H'
    | _ => False) r e2 fun v H' B' s r' d => by
      cases d
      exact k H' B' s r'
theorem ft_borrow {π : Type} {Z : PotK π} {S : Sta} {N : List Str} {sc : Scope} {e : Expr} {φ : SB π} (i : Nat) (h : FT S N sc Z e φ) : FT S N sc Z e (xBorT i φ) := by
  obtain ⟨te, h1, h2⟩ := h.ex
  exact ⟨te, h1, sem_borT i h2⟩
theorem fe_borrow {π : Type} {Z : PotK π} {S : Sta} {N : List Str} {sc : Scope} {e : Expr} {α : SE π} (i : Nat) (h : FE S N sc Z e α) : FE S N sc Z e (xBor i α) := by
  obtain ⟨te, h1, h2⟩ := h.ex
  exact ⟨te, h1, sem_bor i h2⟩

/-! ### more assignments -/
section
variable {π : Type} {Z : PotK π} {S : Sta} {N : List Str} {sc : Scope} {e a b c : Expr} {pos : Pos} {α β γ : SE π} {ω χ : SL π}
def sAsg (α : SE π) (τ : D → Sg → Option Sg) : SS π := fun σ p => (α σ p).bind fun x => (τ x.1 σ).map fun σ1 => .nx σ1 x.2
theorem fs_asg {tg : Expr} {τ : D → Sg → Option Sg} (he : FE S N sc Z e α) (hg : FG S N sc tg τ)
    (hs : InSc sc fun env => swapsWithSole [tg] e pos.line env = pure false := by intro env h; cases env; cases h; rfl)
    (hw : InSc sc fun env => swappedStores [tg] e env = pure none := by intro env h; cases env; cases h; rfl)
    (h1 : InSc sc fun env => (assignEach [tg] env).map (·.2) = [assign tg env] := by intro env h; rfl) : FS S N sc Z (.Assign [tg] e pos) (sAsg α τ) := by
  obtain ⟨t, a1, a2⟩ := he.ex
  obtain ⟨g, b1, b2⟩ := hg.ex
  refine ⟨tAsg t g, fun X hX => ps_asg (a1 X hX.1) (b1 X hX) (hs.at hX.1) (hw.at hX.1) (h1.at hX.1), fun F B vs H σ p o E r q k => ?_⟩
  obtain ⟨⟨x, p1⟩, e1, q⟩ := bnd q
  obtain ⟨σ1, e2, q⟩ := mpd q
  cases q
  refine a2 F B vs H σ p x p1 _ r e1 fun v H1 B1 s1 r1 d1 => ?_
  exact b2 Z F B1 vs H1 σ p1 v x σ1 _ r1 d1 e2 fun vs' r2 => k vs' H1 B1 s1 r2
def tgT3 (i j l : Nat) : D → Sg → Option Sg := fun d σ => match d with
  | .tuple [x, y, z] => some (((σ.set i (.val x)).set j (.val y)).set l (.val z))
  | _ => none
theorem fg_t3 {x y z : Str} {p1 p2 p3 : Pos} {k} (i j l : Nat) (hi : N[i]? = some x := by rfl) (hj : N[j]? = some y := by rfl) (hl : N[l]? = some z := by rfl) (hx : Loc sc x := by first | exact Or.inl rfl | exact Or.inr rfl)
    (hy : Loc sc y := by first | exact Or.inl rfl | exact Or.inr rfl) (hz : Loc sc z := by first | exact Or.inl rfl | exact Or.inr rfl) : FG S N sc (.Tuple [.Name x p1, .Name y p2, .Name z p3] k pos) (tgT3 i j l) := by
  refine ⟨gTup S.K 3 (gCons (gName i) (gCons (gName j) (gCons (gName l) gNil))), fun X hX => ?_, ?_⟩
  · obtain ⟨⟨nd, s0, H0, env, outer, stack, ex, fn, pn, hs', e⟩, hf⟩ := hX
    subst e
    exact pg_tup rfl (pgs_cons (pg_name nd hi (by show Loc env.scope x; rw [hs']; exact hx) (.inl (hf x))) (pgs_cons (pg_name nd hj (by show Loc env.scope y; rw [hs']; exact hy) (.inl (hf y))) (pgs_cons (pg_name nd hl (by show Loc env.scope z; rw [hs']; exact hz) (.inl (hf z))) pgs_nil)))
  · intro π Z F B vs H σ p v d σ' Q r hd e k
    cases hd with
    | tup hs ha =>
      cases ha with
      | nil => cases e
      | cons h1 ha =>
        cases ha with
        | nil => cases e
        | cons h2 ha =>
          cases ha with
          | nil => cases e
          | cons h3 ha =>
            cases ha with
            | nil =>
              cases e
              exact ⟨_, _, rfl, sq_t r.sub hs, rfl, _, _, rfl, _, _, rfl, _, _, rfl, rfl, k _ (((r.set i h1).set j h2).set l h3)⟩
            | cons _ _ => cases e
    | _ => cases e
/-- a, b, c = e1, e2, e3: three local names -/
def sPar3 (i j l : Nat) (α β γ : SE π) : SS π := fun σ p => (α σ p).bind fun x => (β σ x.2).bind fun y => (γ σ y.2).map fun z => .nx (((σ.set i (.val x.1)).set j (.val y.1)).set l (.val z.1)) z.2
theorem fs_par3 {x y z : Str} {px py pz pt pt2 : Pos} {kt k2} (i j l : Nat) (h : FA S N sc Z [a, b, c] (aCons α (aCons β (aCons γ aNil)))) (hij : i ≠ j := by decide) (hil : i ≠ l := by decide) (hjl : j ≠ l := by decide) (hi : N[i]? = some x := by rfl) (hj : N[j]? = some y := by rfl) (hl : N[l]? = some z := by rfl)
    (hx : sc.names.lookup x = some .local := by rfl) (hy : sc.names.lookup y = some .local := by rfl) (hz : sc.names.lookup z = some .local := by rfl)
    (hw : InSc sc fun env => swappedStores [.Tuple [.Name x px, .Name y py, .Name z pz] kt pt] (.Tuple [a, b, c] k2 pt2) env = pure (some [x, y, z]) := by intro env h; cases env; cases h; rfl)
    (hs : InSc sc fun env => swapsWithSole [.Tuple [.Name x px, .Name y py, .Name z pz] kt pt] (.Tuple [a, b, c] k2 pt2) pos.line env = pure false := by intro env h; cases env; cases h; rfl) :
    FS S N sc Z (.Assign [.Tuple [.Name x px, .Name y py, .Name z pz] kt pt] (.Tuple [a, b, c] k2 pt2) pos) (sPar3 i j l α β γ) := by
  obtain ⟨t, a1, a2⟩ := h.ex
  refine ⟨tPar3 i j l t, fun X hX => ?_, fun F B vs H σ p o E r e k => ?_⟩
  · have ha := a1 X hX.1
    have hw' := hw.at hX.1
    have hs'' := hs.at hX.1
    obtain ⟨⟨nd, s0, H0, env, outer, stack, ex, fn, pn, hs', e⟩, hf⟩ := hX
    subst e
    exact ps_par3 rfl nd hi hj hl hij hil hjl (by show env.scope.names.lookup x = _; rw [hs']; exact hx) (by show env.scope.names.lookup y = _; rw [hs']; exact hy) (by show env.scope.names.lookup z = _; rw [hs']; exact hz) ha hw' hs''
  obtain ⟨⟨x, p1⟩, e1, e⟩ := bnd e
  obtain ⟨⟨y, p2⟩, e2, e⟩ := bnd e
  obtain ⟨⟨z, p3⟩, e3, e4⟩ := mpd e
  cases e4
  refine a2 F B vs H σ p [x, y, z] p3 _ r (by unfold aCons; rw [e1]; show (((β σ p1).bind _).map _) = _; rw [e2]; show ((((γ σ p2).bind _).map _).map _) = _; rw [e3]; rfl) fun ys H1 B1 s1 r1 d1 => ?_
  cases d1 with
  | cons dx dn =>
    cases dn with
    | cons dy dn =>
      cases dn with
      | cons dz dn =>
        cases dn
        exact ⟨_, _, _, rfl, k _ H1 B1 s1 (((r1.set i dx).set j dy).set l dz)⟩
/-- a, b = a new list, a value -/
def sParLE (i j : Nat) (ω : SL π) (β : SE π) : SS π := fun σ p => (ω σ p).bind fun x => (β σ x.2).map fun y => .nx ((σ.set i (.own x.1)).set j (.val y.1)) y.2
def sParEL (i j : Nat) (α : SE π) (ω : SL π) : SS π := fun σ p => (α σ p).bind fun x => (ω σ x.2).map fun y => .nx ((σ.set j (.own y.1)).set i (.val x.1)) y.2
def sParLL (i j : Nat) (ω χ : SL π) : SS π := fun σ p => (ω σ p).bind fun x => (χ σ x.2).map fun y => .nx ((σ.set i (.own x.1)).set j (.own y.1)) y.2
theorem fs_parLE {x y : Str} {px py pt pt2 : Pos} {kt k2} (i j : Nat) (h1 : FL S N sc Z a ω) (h2 : FE S N sc Z b β) (hs1 : ∀ X : Cx, starEach [a, b] X.env = (false, eval a X.env) :: starEach [b] X.env := by intro _; rfl) (hs2 : ∀ X : Cx, starEach [b] X.env = (false, eval b X.env) :: starEach [] X.env := by intro _; rfl)
    (hij : i ≠ j := by decide) (hi : N[i]? = some x := by rfl) (hj : N[j]? = some y := by rfl) (hx : sc.names.lookup x = some .local := by rfl) (hy : sc.names.lookup y = some .local := by rfl)
    (hw : InSc sc fun env => swappedStores [.Tuple [.Name x px, .Name y py] kt pt] (.Tuple [a, b] k2 pt2) env = pure (some [x, y]) := by intro env h; cases env; cases h; rfl)
    (hs : InSc sc fun env => swapsWithSole [.Tuple [.Name x px, .Name y py] kt pt] (.Tuple [a, b] k2 pt2) pos.line env = pure false := by intro env h; cases env; cases h; rfl) :
    FS S N sc Z (.Assign [.Tuple [.Name x px, .Name y py] kt pt] (.Tuple [a, b] k2 pt2) pos) (sParLE i j ω β) := by
  obtain ⟨t, a1, a2⟩ := h1.ex
  obtain ⟨u, b1, b2⟩ := h2.ex
  refine ⟨_, fun X hX => par_at hX (pa_cons (a1 X hX.1) (pa_cons (b1 X hX.1) pa_nil (hs2 X)) (hs1 X)) hij hi hj hx hy (hw.at hX.1) (hs.at hX.1), fun F B vs H σ p o E r e k => ?_⟩
  obtain ⟨⟨x, p1⟩, e1, e⟩ := bnd e
  obtain ⟨⟨y, p2⟩, e2, e⟩ := mpd e
  cases e
  refine a2 F B vs H σ p x p1 _ r e1 fun l H1 B1 s1 n => ?_
  obtain ⟨xs, g1, g2⟩ := n.is
  refine b2 (F.with l xs) B1 vs H1 σ p1 y p2 _ (n.go g1) e2 fun v H2 B2 s2 r2 d2 => ?_
  have n2 := NewL.come r2 n.n0 n.nN n.rep.potN (DqA_up s2 _ _ g2)
  obtain ⟨zs, f1, f2⟩ := n2.is
  exact ⟨_, _, rfl, k _ H2 B2 (s1.trans s2) ((n2.rep.setL i f1 f2 n2.nB n2.n0 n2.nN fun j es _ q => n2.nS j es q).set j d2)⟩
theorem fs_parEL {x y : Str} {px py pt pt2 : Pos} {kt k2} (i j : Nat) (h1 : FE S N sc Z a α) (h2 : FL S N sc Z b ω) (hs1 : ∀ X : Cx, starEach [a, b] X.env = (false, eval a X.env) :: starEach [b] X.env := by intro _; rfl) (hs2 : ∀ X : Cx, starEach [b] X.env = (false, eval b X.env) :: starEach [] X.env := by intro _; rfl)
    (hij : i ≠ j := by decide) (hi : N[i]? = some x := by rfl) (hj : N[j]? = some y := by rfl) (hx : sc.names.lookup x = some .local := by rfl) (hy : sc.names.lookup y = some .local := by rfl)
    (hw : InSc sc fun env => swappedStores [.Tuple [.Name x px, .Name y py] kt pt] (.Tuple [a, b] k2 pt2) env = pure (some [x, y]) := by intro env h; cases env; cases h; rfl)
    (hs : InSc sc fun env => swapsWithSole [.Tuple [.Name x px, .Name y py] kt pt] (.Tuple [a, b] k2 pt2) pos.line env = pure false := by intro env h; cases env; cases h; rfl) :
    FS S N sc Z (.Assign [.Tuple [.Name x px, .Name y py] kt pt] (.Tuple [a, b] k2 pt2) pos) (sParEL i j α ω) := by
  obtain ⟨t, a1, a2⟩ := h1.ex
  obtain ⟨u, b1, b2⟩ := h2.ex
  refine ⟨_, fun X hX => par_at hX (pa_cons (a1 X hX.1) (pa_cons (b1 X hX.1) pa_nil (hs2 X)) (hs1 X)) hij hi hj hx hy (hw.at hX.1) (hs.at hX.1), fun F B vs H σ p o E r e k => ?_⟩
  obtain ⟨⟨x, p1⟩, e1, e⟩ := bnd e
  obtain ⟨⟨y, p2⟩, e2, e⟩ := mpd e
  cases e
  refine a2 F B vs H σ p x p1 _ r e1 fun v H1 B1 s1 r1 d1 => ?_
  refine b2 F B1 vs H1 σ p1 y p2 _ r1 e2 fun l H2 B2 s2 n => ?_
  obtain ⟨xs, g1, g2⟩ := n.is
  refine ⟨_, _, rfl, ?_⟩
  rw [List.set_comm _ _ hij]
  exact k _ H2 B2 (s1.trans s2) ((n.rep.setL j g1 g2 n.nB n.n0 n.nN fun j es _ q => n.nS j es q).set i (Dq_up s2 _ _ d1))
theorem fs_parLL {x y : Str} {px py pt pt2 : Pos} {kt k2} (i j : Nat) (h1 : FL S N sc Z a ω) (h2 : FL S N sc Z b χ) (hs1 : ∀ X : Cx, starEach [a, b] X.env = (false, eval a X.env) :: starEach [b] X.env := by intro _; rfl) (hs2 : ∀ X : Cx, starEach [b] X.env = (false, eval b X.env) :: starEach [] X.env := by intro _; rfl)
    (hij : i ≠ j := by decide) (hi : N[i]? = some x := by rfl) (hj : N[j]? = some y := by rfl) (hx : sc.names.lookup x = some .local := by rfl) (hy : sc.names.lookup y = some .local := by rfl)
    (hw : InSc sc fun env => swappedStores [.Tuple [.Name x px, .Name y py] kt pt] (.Tuple [a, b] k2 pt2) env = pure (some [x, y]) := by intro env h; cases env; cases h; rfl)
    (hs : InSc sc fun env => swapsWithSole [.Tuple [.Name x px, .Name y py] kt pt] (.Tuple [a, b] k2 pt2) pos.line env = pure false := by intro env h; cases env; cases h; rfl) :
    FS S N sc Z (.Assign [.Tuple [.Name x px, .Name y py] kt pt] (.Tuple [a, b] k2 pt2) pos) (sParLL i j ω χ) := by
  obtain ⟨t, a1, a2⟩ := h1.ex
  obtain ⟨u, b1, b2⟩ := h2.ex
  refine ⟨_, fun X hX => par_at hX (pa_cons (a1 X hX.1) (pa_cons (b1 X hX.1) pa_nil (hs2 X)) (hs1 X)) hij hi hj hx hy (hw.at hX.1) (hs.at hX.1), fun F B vs H σ p o E r e k => ?_⟩
  obtain ⟨⟨x, p1⟩, e1, e⟩ := bnd e
  obtain ⟨⟨y, p2⟩, e2, e⟩ := mpd e
  cases e
  refine a2 F B vs H σ p x p1 _ r e1 fun l H1 B1 s1 n => ?_
  obtain ⟨xs, g1, g2⟩ := n.is
  refine b2 (F.with l xs) B1 vs H1 σ p1 y p2 _ (n.go g1) e2 fun m H2 B2 s2 m2 => ?_
  have n2 := NewL.come m2.rep n.n0 n.nN n.rep.potN (DqA_up s2 _ _ g2)
  obtain ⟨zs, f1, f2⟩ := n2.is
  obtain ⟨ys, q1, q2⟩ := m2.is
  have hne : m ≠ l := fun z => m2.nN (.inr z)
  have m0 : F.H0 m = none := by
    have h := m2.n0
    have h : upd F.H0 l (.lst xs) m = none := h
    rw [upd_ne hne] at h; exact h
  refine ⟨_, _, rfl, k _ H2 B2 (s1.trans s2) ((n2.rep.setL i f1 f2 n2.nB n2.n0 n2.nN fun j es _ q => n2.nS j es q).setL j q1 q2 m2.nB m0 (fun z => m2.nN (.inl z)) fun jj es w q => ?_)⟩
  by_cases z : jj = i
  · subst z
    rw [List.getElem?_set_self]
    · intro e
      exact hne (by cases e; rfl)
    · have := n2.rep.len
      have h3 := (List.getElem?_eq_some_iff.mp q).1
      rw [List.length_set] at h3
      omega
  · rw [List.getElem?_set_ne (fun w => z w.symm)] at q ⊢
    exact m2.nS jj es q
end
end FL

namespace FL
open PySem PySem.Spec PyProof.Rows L2

/-! ### taking items out of a list of one's own -/
abbrev SP (π : Type) := Sg → π → Option (D × Sg × π)
def SemP {π : Type} (K : PySem.W.Frag) (Z : PotK π) (te : TE) (φ : SP π) : Prop :=
  ∀ (F : Fx) (B : Hp) (vs : L2.St) (H : Hp) (σ : Sg) (p : π) (d : D) (σ' : Sg) (p' : π) (Q : VK),
    Rep K Z F B vs H σ p → φ σ p = some (d, σ', p') →
    (∀ v H' B', Same B B' → Rep K Z F B' vs H' σ' p' → Dq K B' v d → Q v H') → te vs H Q
structure FP {π : Type} (S : Sta) (N : List Str) (sc : Scope) (Z : PotK π) (e : Expr) (φ : SP π) : Prop where
  ex : ∃ te, (∀ X, Fam1 S N sc X → PE X e te) ∧ SemP S.K Z te φ
theorem dropLast_eq {α : Type} : ∀ (l : List α), l.dropLast = l.take (l.length - 1) := fun l => List.dropLast_eq_take
theorem DqAll.dropLast {K : PySem.W.Frag} {B : Hp} {vs : List V} {ds : List D} (h : DqAll K B vs ds) : DqAll K B vs.dropLast ds.dropLast := by
  rw [List.dropLast_eq_take, List.dropLast_eq_take, DqAll.len h]
  exact h.cut _
theorem DqAll.erase {K : PySem.W.Frag} {B : Hp} : ∀ {vs : List V} {ds : List D} (k : Nat), DqAll K B vs ds → DqAll K B (vs.eraseIdx k) (ds.eraseIdx k)
  | _, _, 0, .nil => .nil
  | _, _, _ + 1, .nil => .nil
  | _, _, 0, .cons _ t => t
  | _, _, k + 1, .cons q t => .cons q (DqAll.erase k t)
section
variable {π : Type} {Z : PotK π} {S : Sta} {N : List Str} {sc : Scope} {e a b : Expr} {pos : Pos} {α : SE π} {ζ : SP π}
/-- x.pop() -/
def xPop (i : Nat) : SP π := fun σ p => match σ[i]? with
  | some (.own ds) => (ds[ds.length - 1]?).map fun d => (d, σ.set i (.own ds.dropLast), p)
  | _ => none
theorem fp_pop {x : Str} {q q2 q3 : Pos} (i : Nat) (hi : N[i]? = some x := by rfl)
    (hv : Vis sc x := by first | exact Or.inl rfl | exact Or.inr (Or.inl rfl) | exact Or.inr (Or.inr rfl))
    (hd : (x == ("__debug__" : Str)) = false := by decide) (hcd : (x == ("__classdict__" : Str)) = false := by decide)
    (hp : ∀ (X : Cx), PE X (.Name x q) (tVar i) → PE X (.Call (.Attribute (.Name x q) "pop" q2) [] [] q3) (tBM0 X.K "list" rPop (tVar i)) := by
      intro X hn; exact pe_bm0 PySem.F.plainAttrs_list PySem.F.slot_list_pop PySem.F.type_list_pop mt_pop hn) :
    FP S N sc Z (.Call (.Attribute (.Name x q) "pop" q2) [] [] q3) (xPop i) := by
  refine ⟨tBM0 S.K "list" rPop (tVar i), fun X hX => ?_, fun F B vs H σ p d σ' p' Q r e k => ?_⟩
  · have hn := var_at (q := q) hX.1 hi hv hd hcd
    have hK : X.K = S.K := by obtain ⟨⟨_, _, _, _, _, _, _, _, _, _, rfl⟩, _⟩ := hX; rfl
    rw [← hK]
    exact hp X hn
  · unfold xPop at e
    split at e
    case h_2 => cases e
    rename_i ds q
    obtain ⟨y, e1, e2⟩ := mpd e
    cases e2
    obtain ⟨c, xs, h1, h2, h3, h4, h5, h6⟩ := r.own i ds q
    obtain ⟨v, g1, g2⟩ := h3.has e1
    refine ⟨_, h1, .inl ⟨rfl, _, SqL.of h2⟩, _, _, v, rfl, rfl, h2, by rw [DqAll.len h3]; exact g1, ?_⟩
    exact k v _ B (Same.refl B) (r.write q h1 h3.dropLast) g2
/-- x.pop(e) -/
def xPopAt (i : Nat) (α : SE π) : SP π := fun σ p => (α σ p).bind fun x => match σ[i]?, x.1 with
  | some (.own ds), .int n => if -(2 ^ 63) ≤ n ∧ n < 2 ^ 63 then (ixN ds.length n).bind fun k => (ds[k]?).map fun d => (d, σ.set i (.own (ds.eraseIdx k)), x.2) else none
  | _, _ => none
theorem fp_popAt {x : Str} {q q2 q3 : Pos} (i : Nat) (h : FA S N sc Z [e] (aCons α aNil)) (hi : N[i]? = some x := by rfl)
    (hv : Vis sc x := by first | exact Or.inl rfl | exact Or.inr (Or.inl rfl) | exact Or.inr (Or.inr rfl))
    (hd : (x == ("__debug__" : Str)) = false := by decide) (hcd : (x == ("__classdict__" : Str)) = false := by decide)
    (hp : ∀ (X : Cx) (t : TA), PE X (.Name x q) (tVar i) → PA X [e] t → PE X (.Call (.Attribute (.Name x q) "pop" q2) [e] [] q3) (tBM X.K "list" rPopAt (tVar i) t) := by
      intro X t hn ht; exact pe_bm PySem.F.plainAttrs_list PySem.F.slot_list_pop PySem.F.type_list_pop mt_popAt hn ht) :
    FP S N sc Z (.Call (.Attribute (.Name x q) "pop" q2) [e] [] q3) (xPopAt i α) := by
  obtain ⟨t, a1, a2⟩ := h.ex
  refine ⟨tBM S.K "list" rPopAt (tVar i) t, fun X hX => ?_, fun F B vs H σ p d σ' p' Q r e k => ?_⟩
  · have hn := var_at (q := q) hX.1 hi hv hd hcd
    have hK : X.K = S.K := by obtain ⟨⟨_, _, _, _, _, _, _, _, _, _, rfl⟩, _⟩ := hX; rfl
    rw [← hK]
    exact hp X t hn (a1 X hX.1)
  · obtain ⟨⟨x, p1⟩, e1, e⟩ := bnd e
    cases q : σ[i]? with
    | none => rw [q] at e; cases e
    | some w =>
      rw [q] at e
      cases w with
      | own ds =>
        cases x with
        | int n =>
          have e : (if -(2 ^ 63) ≤ n ∧ n < 2 ^ 63 then (ixN ds.length n).bind fun k => (ds[k]?).map fun d => (d, σ.set i (Sl.own (ds.eraseIdx k)), p1) else none) = some (d, σ', p') := e
          split at e
          case isFalse => cases e
          rename_i hn
          obtain ⟨j, e2, e⟩ := bnd e
          obtain ⟨y, e3, e⟩ := mpd e
          cases e
          obtain ⟨c, xs, h1, h2, _⟩ := r.own i ds q
          refine ⟨_, h1, .inl ⟨rfl, _, SqL.of h2⟩, ?_⟩
          refine a2 F B vs H σ p [.int n] _ _ r (by unfold aCons; rw [e1]; rfl) fun ys H1 B1 s1 r1 d1 => ?_
          cases d1 with
          | cons dx dn =>
            cases dn
            cases dx
            obtain ⟨c', xs', g1, g2, g3, _⟩ := r1.own i ds q
            rw [h1] at g1
            cases g1
            obtain ⟨v, f1, f2⟩ := g3.has e3
            refine ⟨_, xs', n, j, v, rfl, rfl, g2, hn.1, hn.2, by rw [DqAll.len g3]; exact (ixN_seq e2).1, f1, ?_⟩
            exact k v _ B1 s1 (r1.write q h1 (g3.erase j)) f2
        | _ => cases e
      | _ => cases e
def sSetP (i : Nat) (ζ : SP π) : SS π := fun σ p => (ζ σ p).map fun x => .nx (x.2.1.set i (.val x.1)) x.2.2
theorem fs_setP {x : Str} {q : Pos} (i : Nat) (h : FP S N sc Z e ζ) (hi : N[i]? = some x := by rfl) (hx : Loc sc x := by first | exact Or.inl rfl | exact Or.inr rfl)
    (hs : InSc sc fun env => swapsWith e (some (.Name x q)) pos.line env = pure false := by intro env h; cases env; cases h; rfl) : FS S N sc Z (.Assign [.Name x q] e pos) (sSetP i ζ) := by
  obtain ⟨t, a1, a2⟩ := h.ex
  refine ⟨_, fun X hX => set_at hX hi hx (a1 X hX) (hs.at hX.1), fun F B vs H σ p o E r e k => ?_⟩
  obtain ⟨⟨d, σ1, p1⟩, e1, e2⟩ := mpd e
  cases e2
  exact a2 F B vs H σ p d σ1 p1 _ r e1 fun v H1 B1 s1 r1 d1 => k _ H1 B1 s1 (r1.set i d1)
def sAsgP (ζ : SP π) (τ : D → Sg → Option Sg) : SS π := fun σ p => (ζ σ p).bind fun x => (τ x.1 x.2.1).map fun σ1 => .nx σ1 x.2.2
theorem fs_asgP {tg : Expr} {τ : D → Sg → Option Sg} (he : FP S N sc Z e ζ) (hg : FG S N sc tg τ)
    (hs : InSc sc fun env => swapsWithSole [tg] e pos.line env = pure false := by intro env h; cases env; cases h; rfl)
    (hw : InSc sc fun env => swappedStores [tg] e env = pure none := by intro env h; cases env; cases h; rfl)
    (h1 : InSc sc fun env => (assignEach [tg] env).map (·.2) = [assign tg env] := by intro env h; rfl) : FS S N sc Z (.Assign [tg] e pos) (sAsgP ζ τ) := by
  obtain ⟨t, a1, a2⟩ := he.ex
  obtain ⟨g, b1, b2⟩ := hg.ex
  refine ⟨tAsg t g, fun X hX => ps_asg (a1 X hX) (b1 X hX) (hs.at hX.1) (hw.at hX.1) (h1.at hX.1), fun F B vs H σ p o E r q k => ?_⟩
  obtain ⟨⟨x, σ1, p1⟩, e1, q⟩ := bnd q
  obtain ⟨σ2, e2, q⟩ := mpd q
  cases q
  refine a2 F B vs H σ p x σ1 p1 _ r e1 fun v H1 B1 s1 r1 d1 => ?_
  exact b2 Z F B1 vs H1 σ1 p1 v x σ2 _ r1 d1 e2 fun vs' r2 => k vs' H1 B1 s1 r2
def sDropP (ζ : SP π) : SS π := fun σ p => (ζ σ p).map fun x => .nx x.2.1 x.2.2
theorem fs_dropP (h : FP S N sc Z e ζ) (hs : InSc sc fun env => swapsWith e none pos.line env = pure false := by intro env h; cases env; cases h; rfl) : FS S N sc Z (.Expr e pos) (sDropP ζ) := by
  obtain ⟨t, a1, a2⟩ := h.ex
  refine ⟨_, fun X hX => ps_expr (a1 X hX) (hs.at hX.1), fun F B vs H σ p o E r e h => ?_⟩
  obtain ⟨⟨d, σ1, p1⟩, e1, e2⟩ := mpd e
  cases e2
  exact a2 F B vs H σ p d σ1 p1 _ r e1 fun v H1 B1 s1 r1 d1 => h _ H1 B1 s1 r1
/-- x.append(y.pop(..)) -/
def sAppP (i : Nat) (ζ : SP π) : SS π := fun σ p => (ζ σ p).bind fun x => match σ[i]?, x.2.1[i]? with
  | some (.own _), some (.own ds) => if ds.length < sizeLine then some (.nx (x.2.1.set i (.own (ds ++ [x.1]))) x.2.2) else none
  | _, _ => none
theorem fs_appP {x : Str} {q q2 q3 : Pos} (i : Nat) (h : FP S N sc Z e ζ) (hse : ∀ X : Cx, starEach [e] X.env = (false, eval e X.env) :: starEach [] X.env := by intro _; rfl) (hi : N[i]? = some x := by rfl)
    (hv : Vis sc x := by first | exact Or.inl rfl | exact Or.inr (Or.inl rfl) | exact Or.inr (Or.inr rfl)) (hs : InSc sc fun env => swapsWith (.Call (.Attribute (.Name x q) "append" q2) [e] [] q3) none pos.line env = pure false := by intro env h; cases env; cases h; rfl)
    (hd : (x == ("__debug__" : Str)) = false := by decide) (hcd : (x == ("__classdict__" : Str)) = false := by decide)
    (hp : ∀ (X : Cx) (t : TA), PE X (.Name x q) (tVar i) → PA X [e] t → PE X (.Call (.Attribute (.Name x q) "append" q2) [e] [] q3) (tBM X.K "list" rAppend (tVar i) t) := by
      intro X t hn ht; exact pe_bm PySem.F.plainAttrs_list PySem.F.slot_list_append PySem.F.type_list_append mt_append hn ht) :
    FS S N sc Z (.Expr (.Call (.Attribute (.Name x q) "append" q2) [e] [] q3) pos) (sAppP i ζ) := by
  obtain ⟨t, a1, a2⟩ := h.ex
  refine ⟨tDrop (tBM S.K "list" rAppend (tVar i) (tCons t tNil)), fun X hX => ?_, fun F B vs H σ p o E r e k => ?_⟩
  · have hn := var_at (q := q) hX.1 hi hv hd hcd
    have ha := pa_cons (a1 X hX) pa_nil (hse X)
    have hs' := hs.at hX.1
    have hK : X.K = S.K := by obtain ⟨⟨_, _, _, _, _, _, _, _, _, _, rfl⟩, _⟩ := hX; rfl
    rw [← hK]
    exact ps_expr (hp _ _ hn ha) hs'
  obtain ⟨⟨d, σ1, p1⟩, e1, e⟩ := bnd e
  cases q : σ[i]? with
  | none => rw [q] at e; cases e
  | some w =>
    rw [q] at e
    cases w with
    | own es =>
      cases q' : σ1[i]? with
      | none => rw [show ((d, σ1, p1) : D × Sg × π).2.1 = σ1 from rfl, q'] at e; cases e
      | some w' =>
        rw [show ((d, σ1, p1) : D × Sg × π).2.1 = σ1 from rfl, q'] at e
        cases w' with
        | own ds =>
          have e : (if ds.length < sizeLine then some (Out.nx (σ1.set i (Sl.own (ds ++ [d]))) p1) else none) = some o := e
          split at e
          · rename_i hl
            cases e
            obtain ⟨c, xs, h1, h2, _⟩ := r.own i es q
            refine ⟨_, h1, .inl ⟨rfl, _, SqL.of h2⟩, ?_⟩
            refine a2 F B vs H σ p d σ1 p1 _ r e1 fun v H1 B1 s1 r1 d1 => ?_
            obtain ⟨c', xs', g1, g2, g3, _⟩ := r1.own i ds q'
            rw [h1] at g1
            cases g1
            refine ⟨_, _, _, rfl, rfl, g2, by rw [DqAll.len g3]; exact hl, ?_⟩
            exact k _ _ B1 s1 (r1.write q' h1 (DqAll.app g3 (.cons d1 .nil)))
          · cases e
        | _ => cases e
    | _ => cases e
end
end FL

namespace FL
open PySem PySem.Spec PyProof.Rows L2
open PySem.Sem (wp)

/-! ### enumerate(t), t a tuple -/
theorem meets_enum1 {v : Value} {o : Obj} {H : Heap → Prop} (B : Begins v o H) :
    Meets (Builtin.«enumerate.__new__» ⟨[.type "enumerate", v], []⟩) (fun _ R s => H s.heap ∧
      R (.ok (.ret (.ref (s.heap.push o).objs.size))) { s with heap := (s.heap.push o).push { cls := .type "enumerate", data := .fields #[.none, .bool false, .ref s.heap.objs.size, rawInt 0, .none, .none] } }) :=
  .of_wp fun prog w A R s h => by
    obtain ⟨hp, g, d, tk, os⟩ := s; obtain ⟨h1, h⟩ := h
    have hsub := sub_enumerate
    have q1 : ∀ {A' : Around} {E : Value → Shared → Prop} {Q : Value → Shared → Prop}, Q (.ref hp.objs.size) ⟨hp.push o, g, d, tk, os⟩ → wpAny (model prog w) A' (pyIter v) Q E ⟨hp, g, d, tk, os⟩ :=
      fun q => B.iter prog w _ _ ⟨hp, g, d, tk, os⟩ _ h1 q
    wp_walk using q1
    refine wpAny_stack_any fun st => wpAny_pure ?_
    split
    · rename_i c _ _ _ _ _
      cases (c == Value.type "enumerate")
      · wp_walk using q1
        exact ⟨_, rfl, h⟩
      · wp_walk using q1
        exact ⟨_, rfl, h⟩
    · wp_walk using q1
      exact ⟨_, rfl, h⟩
section
variable {prog : Program} {w : World} {A : Around} {E : Value → Shared → Prop} {s : Shared}
theorem enum_begins1 {v : Value} {o : Obj} {H : Heap → Prop} {Q : Value → Shared → Prop} (B : Begins v o H) (h1 : H s.heap)
    (h : ∀ h', IsEnum h' (s.heap.objs.size + 1) s.heap.objs.size 0 .none → h'.get? s.heap.objs.size = some o → h'.objs.size = s.heap.objs.size + 2 →
      (∀ b o, s.heap.get? b = some o → h'.get? b = some o) → Q (.ref (s.heap.objs.size + 1)) { s with heap := h' }) :
    wpAny (model prog w) A (call (.type "enumerate") [v]) Q E s := by
  refine callType_new F.called_enumerate (by decide) (F.typeCall_enumerate_1 _) (F.newCall_enumerate_1 _) (fun obj => F.args_object_init_2 obj _) F.entry_enumerate_new
    (meets_enum1 B) ⟨h1, ?_⟩
  have hz : (s.heap.push o).objs.size = s.heap.objs.size + 1 := Heap.size_push ..
  show _ ∧ _
  rw [hz]
  have he : IsEnum ((s.heap.push o).push { cls := .type "enumerate", data := .fields #[.none, .bool false, .ref s.heap.objs.size, rawInt 0, .none, .none] }) (s.heap.objs.size + 1) s.heap.objs.size 0 .none := by
    have := Heap.get?_push_size (s.heap.push o) (o := { cls := .type "enumerate", data := .fields #[.none, .bool false, .ref s.heap.objs.size, rawInt 0, .none, .none] }) rfl
    rw [hz] at this; exact this
  refine ⟨⟨_, he, rfl⟩, h _ he (Heap.get?_push_of_some _ (Heap.get?_push_size _ B.free)) (by rw [Heap.size_push, hz]) fun b o x => Heap.get?_push_of_some _ (Heap.get?_push_of_some _ x)⟩
theorem enumT_end {e it t : Addr} {i : Nat} {k : Int} {items : Array Value} {old : Value} {Q : Option Value → Shared → Prop} (hh : A.handled = none)
    (he : IsEnum s.heap e it k old) (hit : s.heap.IsTupleIter it t i) (ht : s.heap.IsTuple t items) (hx : items[i]? = none)
    (hQ : ∀ h', Heap.ExtBut it s.heap h' → Q none { s with heap := h' }) : wpAny (model prog w) A (pyNext (.ref e)) Q E s := by
  have hT : s.TypeIs (.ref e) "enumerate" := ⟨_, he, rfl⟩
  unfold pyNext
  refine wpAny_bind (wpAny_attempt (wpAny_callSpecial?_slot (name := Str.ofString "__next__") hT F.slot_enumerate_next
    (wpAny_call_entry F.slot_enumerate_next hT F.entry_enumerate_next ?_ (F.args_enumerate_next_1 _))))
  show wpAny _ _ (field (.ref e) 2 >>= _) _ _ _
  refine wpAny_bind (wpAny_field he rfl (x := .ref it) rfl ?_)
  refine wpAny_bind (wpAny_nextOf_tuple_end hh hit ht hx fun h' x he' hx' => ?_)
  obtain ⟨o, ho, hc⟩ := hx'
  refine wpAny_bind (wpAny_isInstance (T := "StopIteration") (b := true) ⟨o, ho, hc⟩ isSubtype_stop ?_)
  exact wpAny_pure (hQ _ he')
end
def IteT (K : PySem.W.Frag) (a : Addr) : It :=
  ⟨fun i H => ∃ (xs : List V) (x : V), SqT K H a xs ∧ xs[i]? = some x, fun i H v H' => ∃ T x, v = .ref T ∧ H T = none ∧ H' = upd H T (.tup [.int (i : Nat), x]) ∧ ∀ xs, SqT K H a xs → xs[i]? = some x, fun i H => ∃ xs : List V, SqT K H a xs ∧ xs.length ≤ i⟩
theorem turn_enumT {P : Program} {w : World} {K : PySem.W.Frag} {elts : List Expr} {kk : Nat} {tpos : Pos} (a e it : Addr) (hea : e ≠ a) (hia : a ≠ it) :
    Turn P w K (.Tuple elts kk tpos) (IteT K a) [e, it] e (fun i h => (∃ old, IsEnum h e it ((i : Nat) : Int) old) ∧ h.IsTupleIter it a i ∧ e ≠ it) where
  mem := by simp
  obj := fun i h st b hb => by
    obtain ⟨⟨old, he⟩, ⟨o, ho, hc, hd⟩, _⟩ := st
    have e' : b = e ∨ b = it := by simpa using hb
    rcases e' with z | z
    · rw [z]; exact ⟨_, he, fun v q => nomatch q⟩
    · rw [z]; exact ⟨o, ho, fun v q => by rw [hd] at q; cases q⟩
  keep := fun i h h' st k => let ⟨⟨old, he⟩, hi, hne⟩ := st; ⟨⟨old, k e (by simp) _ he⟩, hi.at fun o q => k it (by simp) o q, hne⟩
  item := by
    intro X hP hw hK hc i pins s σ H E I hf st hg
    subst hP hw hK
    obtain ⟨⟨old, he⟩, hit, hne⟩ := st
    obtain ⟨xs, x, hq, hx⟩ := hg
    obtain ⟨its, rv, p, hz⟩ := I.tuple hq
    obtain ⟨u, hu, ru⟩ := rv.get hx
    have hel : e < s.heap.objs.size := Heap.lt_size he
    have hil : it < s.heap.objs.size := by obtain ⟨_, q, _⟩ := hit; exact Heap.lt_size q
    have hlt : i < its.toArray.size := by
      have := (List.getElem?_eq_some_iff.mp hu).1
      simpa using this
    refine wpAny_pyNext_enum_itemD (Draws.tuple (prog := X.prog) (w := X.w) (A := X.A.in1) (show X.A.in1.handled = none from I.ok.hd hc) it a hia its.toArray) he ⟨hit, p⟩ hlt hne (by simp [hne, hea]) fun x' h' tk hP ho st' hT hsz hk => ?_
    obtain rfl : x' = u := by
      have hP : its.toArray[i]? = some x' := hP
      have : its[i]? = some x' := by simpa using hP
      rw [hu] at this; exact (Option.some.inj this).symm
    obtain ⟨hit', _⟩ := st'
    refine ⟨_, rfl, wpAny_letOwnedTupleGo_enum (s := { s with heap := h', toks := tk + 1 }) ho fun h'' he' sb => ?_⟩
    have hT2 : h''.get? s.heap.objs.size = some { cls := .type "tuple", data := .seq #[.int i tk, x'] } := (sb.2 _ (Nat.ne_of_gt hel)).trans hT
    have new : ObjOk X.prog X.w (upd H s.heap.objs.size (.tup [.int (i : Nat), x])) h'' s.heap.objs.size (.tup [.int (i : Nat), x]) :=
      ⟨by show 2 ≤ sizeLine; decide, [.int i tk, x'], .cons ⟨_, rfl⟩ (.cons ru .nil), ⟨_, hT2, rfl, _, rfl⟩⟩
    have I1 : Inv X pins σ (upd H s.heap.objs.size (.tup [.int (i : Nat), x])) { s with heap := h'', toks := tk + 1 } :=
      I.turnedNew (ch := [e, it]) (fun b ob hb q => (sb.2 b (fun z => hb (by simp [z]))).trans (hk b ob (fun z => hb (by simp [z])) (fun z => hb (by simp [z])) q)) hf (Nat.le_refl _) new
    refine ⟨.ref s.heap.objs.size, _, I1, rfl, ⟨_, x, rfl, I.hok.fresh (Nat.le_refl _), rfl, fun ys hy => by rw [I.tuple_inj hy hq]; exact hx⟩, ⟨⟨x', ?_⟩, hit'.at fun o q => (sb.2 it (Ne.symm hne)).trans q, hne⟩, fun b hb => ?_⟩
    · have e1 : ((i + 1 : Nat) : Int) = (i : Int) + 1 := by omega
      rw [e1]; exact he'
    · have hb' : b < s.heap.objs.size := by
        have e' : b = e ∨ b = it := by simpa using hb
        rcases e' with z | z
        · rw [z]; exact hel
        · rw [z]; exact hil
      rw [upd_ne (Nat.ne_of_lt hb')]
      exact (hf b hb).1
  done := by
    intro X hP hw hK hc i pins s σ H E I hf st hg
    subst hP hw hK
    obtain ⟨⟨old, he⟩, hit, hne⟩ := st
    obtain ⟨xs, hq, hx⟩ := hg
    obtain ⟨its, rv, p, hz⟩ := I.tuple hq
    obtain ⟨f0, f1, f2, f3, f4, f5⟩ := hf it (by simp)
    have hl := rv.length
    exact enumT_end (I.ok.hd hc) he hit p (by simp; omega) fun h' eb => ⟨rfl, I.turned (t' := s.toks) (fun b o hb q => eb b o hb q) f0 f1 f3 f4 f5⟩
  self := fun A i s Q E st h => let ⟨⟨_, he⟩, _⟩ := st; wpAny_pyIter_enum he h
def iEnumA (K : PySem.W.Frag) (ta : TA) : TI := fun σ H R => ta σ H fun vs H1 => ∃ a xs, vs = [.ref a] ∧ ((SqL K H1 a xs ∧ R (Ite K a) H1) ∨ (SqT K H1 a xs ∧ R (IteT K a) H1))
theorem pi_enumA {X : Cx} {e : Expr} {ta : TA} {p pos tpos : Pos} {elts : List Expr} {kk : Nat} (hg : Gl X "enumerate") (hm : X.mg "enumerate" = none) (ha : PA X [e] ta) (hs : starEach [e] X.env = [(false, eval e X.env)] := by rfl) :
    PI X (.Tuple elts kk tpos) (.Call (.Name "enumerate" p) [e] [] pos) (iEnumA X.K ta) := by
  refine ⟨fun pins s σ H R I h => ?_⟩
  refine Call_ (ld_blt I hg hm boot_enumerate (PyProof.Rows.callWith_type1 (thn (ha.run pos pins s σ H _ I h) fun us s1 ⟨vs, H1, I1, r1, q1⟩ => ?_) hs rfl))
  obtain ⟨a, xs, ex, q1⟩ := q1
  subst ex
  cases r1 with
  | cons r rr =>
    cases rr
    cases r
    have fpk : ∀ b ∈ [s1.heap.objs.size + 1, s1.heap.objs.size], s1.heap.objs.size ≤ b := fun b hb => by
      have e' : b = s1.heap.objs.size + 1 ∨ b = s1.heap.objs.size := by simpa using hb
      rcases e' with z | z
      · rw [z]; exact Nat.le_add_right _ _
      · rw [z]; exact Nat.le_refl _
    rcases q1 with ⟨hq, q⟩ | ⟨hq, q⟩
    · obtain ⟨its, rv, p', hz⟩ := I1.list hq
      refine call_enumerate_list p'.isList fun h' he hit hsz hk => wpAny_pyIter_enum he ?_
      have I2 : Inv X pins σ H1 { s1 with heap := h' } := I1.kept (t' := s1.toks) hk
      exact ⟨s1.heap.objs.size + 1, [s1.heap.objs.size + 1, s1.heap.objs.size], _, _, H1, rfl, I2, turn_enum a (s1.heap.objs.size + 1) s1.heap.objs.size, ⟨⟨.none, he⟩, hit, Nat.succ_ne_self _⟩, fun b hb => I1.fpOk (fpk b hb) (I1.hok.fresh (fpk b hb)), q⟩
    · obtain ⟨its, rv, p', hz⟩ := I1.tuple hq
      have hal : a < s1.heap.objs.size := by obtain ⟨_, q, _⟩ := p'; exact Heap.lt_size q
      refine enum_begins1 (begins_tuple a its.toArray) p' fun h' he hit hsz hk => wpAny_pyIter_enum he ?_
      have I2 : Inv X pins σ H1 { s1 with heap := h' } := I1.kept (t' := s1.toks) hk
      exact ⟨s1.heap.objs.size + 1, [s1.heap.objs.size + 1, s1.heap.objs.size], _, _, H1, rfl, I2, turn_enumT a (s1.heap.objs.size + 1) s1.heap.objs.size (Nat.ne_of_gt (Nat.lt_succ_of_lt hal)) (Nat.ne_of_lt hal), ⟨⟨.none, he⟩, ⟨_, hit, rfl, rfl⟩, Nat.succ_ne_self _⟩, fun b hb => I1.fpOk (fpk b hb) (I1.hok.fresh (fpk b hb)), q⟩
def enumFA : List D → Option (List D)
  | [.list ds] => some (enumL 0 ds)
  | [.tuple ds] => some (enumL 0 ds)
  | _ => none
theorem it_enumT {K : PySem.W.Frag} {B : Hp} {a : Addr} {xs : List V} {ds : List D} (h : SqT K B a xs) (hd : DqAll K B xs ds) : ItOk K (IteT K a) B (enumL 0 ds) where
  stop := fun i H s hi => ⟨xs, sq_t s h, by rw [DqAll.len hd]; rw [enumL_len] at hi; exact hi⟩
  go := fun i H s hi => by
    have hx : i < xs.length := by rw [DqAll.len hd]; rw [enumL_len] at hi; exact hi
    exact ⟨xs, xs[i], sq_t s h, List.getElem?_eq_getElem hx⟩
  yld := fun i H x H' d s y e B2 s1 s2 => by
    obtain ⟨T, w, e1, hT, e2, y⟩ := y
    subst e1 e2
    obtain ⟨d', g1, g2⟩ := enumL_get 0 ds i d e
    subst g2
    have gr : Gr B2 H (upd B2 T (.tup [.int (i : Nat), w])) (upd H T (.tup [.int (i : Nat), w])) := Gr.new s2 hT
    refine ⟨_, gr, .tup (SqT.of upd_same) (.cons ?_ (.cons (Dq_up (s1.trans gr.b) d' w (DqAll.at hd (y xs (sq_t s h)) g1)) .nil))⟩
    rw [Nat.zero_add]
    exact .int _
theorem vi_enumA {K : PySem.W.Frag} : ValI K (fun vs H1 R => ∃ a xs, vs = [.ref a] ∧ ((SqL K H1 a xs ∧ R (Ite K a) H1) ∨ (SqT K H1 a xs ∧ R (IteT K a) H1))) enumFA := by
  intro B H xs ds z R s hd e k
  cases hd with
  | nil => cases e
  | cons dx dn =>
    cases dx with
    | lst h1 h2 =>
      cases dn with
      | nil =>
        cases e
        exact ⟨_, _, rfl, .inl ⟨SqL.of (s _ _ h1), k _ (it_enum h1 h2)⟩⟩
      | cons _ _ => cases e
    | tup h1 h2 =>
      cases dn with
      | nil =>
        cases e
        exact ⟨_, _, rfl, .inr ⟨sq_t s h1, k _ (it_enumT h1 h2)⟩⟩
      | cons _ _ => cases e
    | _ => cases e
section
variable {π : Type} {Z : PotK π} {S : Sta} {N : List Str} {sc : Scope} {a : Expr} {ω : SL π} {elts : List Expr} {kk : Nat} {tpos q1 pos : Pos}
theorem fi_enumA (hg : Gb sc "enumerate") (hm : S.mg "enumerate" = none) (ha : FA S N sc Z [a] ω) (hs : ∀ X : Cx, starEach [a] X.env = [(false, eval a X.env)] := by intro _; rfl) : FI S N sc Z (.Tuple elts kk tpos) (.Call (.Name "enumerate" q1) [a] [] pos) (iBy enumFA ω) := by
  obtain ⟨t, a1, a2⟩ := ha.ex
  refine ⟨iEnumA S.K t, fun X hX => ?_, sem_iby vi_enumA a2⟩
  have hp := a1 X hX
  have g1 := gl_of hX hg
  have g2 := mg_of hX
  obtain ⟨_, s0, H0, env, outer, stack, ex, fn, pn, hs', hx⟩ := hX
  subst hx
  exact pi_enumA g1 (by rw [g2]; exact hm) hp (hs _)
end
end FL

namespace FL
open PySem L2
section
variable {π : Type} {σ : Sg} {p p1 p2 p' : π} {α β γ : SE π} {φ ψ : SB π} {ω : SL π} {d x y z : D} {ds es : List D} {τ : D → Sg → Option Sg} {i j l : Nat} {u v : SO π} {lo hi : Option Int} {R : Out π → Prop} {σ1' : Sg}
/-- the state turns, counted -/
theorem lc_evo {κ ρ : Type} {own : List Nat} (e : κ → D) (s : κ → Sg) (h : ρ → D) (J : Nat → π → Prop) (G : κ → ρ → Prop) (n : Nat) : ∀ (xs : List κ) (k : Nat) (p : π), k + xs.length ≤ n → J k p → (∀ x ∈ xs, τ (e x) (wipeS σ own) = some (s x)) →
    (∀ i, i < n → ∀ x ∈ xs, ∀ p, J i p → ∃ y p1, α (s x) p = some (h y, p1) ∧ G x y ∧ J (i + 1) p1) → ∃ (ys : List ρ) (p' : π), All2 G xs ys ∧ J (k + xs.length) p' ∧ lcGo own τ xYes α (xs.map e) σ p = some (ys.map h, p')
  | [], k, p, _, hJ, _, _ => ⟨[], p, .nil, hJ, rfl⟩
  | x :: r, k, p, hn, hJ, h1, h3 => by
    rw [List.length_cons] at hn
    obtain ⟨y, p1, hy, gy, hJ1⟩ := h3 k (by omega) x List.mem_cons_self p hJ
    obtain ⟨ys, p', hs, hJ2, ih⟩ := lc_evo e s h J G n r (k + 1) p1 (by omega) hJ1 (fun y hy => h1 y (List.mem_cons_of_mem _ hy)) fun i hi y hy => h3 i hi y (List.mem_cons_of_mem _ hy)
    refine ⟨y :: ys, p', .cons gy hs, by rw [List.length_cons, show k + (r.length + 1) = k + 1 + r.length by omega]; exact hJ2, ?_⟩
    rw [List.map_cons]
    unfold lcGo
    rw [h1 x List.mem_cons_self]
    simp only [xYes, Option.bind_some, if_true, hy, ih, Option.map_some, List.map_cons]
theorem lc_evoS {κ : Type} {own : List Nat} (e : κ → D) (s : κ → Sg) (h : κ → D) (J : Nat → π → Prop) (n : Nat) : ∀ (xs : List κ) (k : Nat) (p : π), k + xs.length ≤ n → J k p → (∀ x ∈ xs, τ (e x) (wipeS σ own) = some (s x)) → (∀ i, i < n → ∀ x ∈ xs, ∀ p, J i p → ∃ c p1, φ (s x) p = some (c, p1) ∧ J (i + 1) p1) →
    (∀ x ∈ xs, ∀ p, α (s x) p = some (h x, p)) → ∃ (ys : List κ) (p' : π), ys.Sublist xs ∧ J (k + xs.length) p' ∧ lcGo own τ φ α (xs.map e) σ p = some (ys.map h, p')
  | [], k, p, _, hJ, _, _, _ => ⟨[], p, List.nil_sublist _, hJ, rfl⟩
  | x :: r, k, p, hn, hJ, h1, h2, h3 => by
    rw [List.length_cons] at hn
    obtain ⟨c, p1, hc, hJ1⟩ := h2 k (by omega) x List.mem_cons_self p hJ
    obtain ⟨ys, p', hs, hJ2, ih⟩ := lc_evoS e s h J n r (k + 1) p1 (by omega) hJ1 (fun y hy => h1 y (List.mem_cons_of_mem _ hy)) (fun i hi y hy => h2 i hi y (List.mem_cons_of_mem _ hy)) fun y hy => h3 y (List.mem_cons_of_mem _ hy)
    have hl : k + (x :: r).length = k + 1 + r.length := by rw [List.length_cons]; omega
    rw [hl]
    cases c with
    | true =>
      refine ⟨x :: ys, p', hs.cons₂ x, hJ2, ?_⟩
      rw [List.map_cons]
      unfold lcGo
      rw [h1 x List.mem_cons_self]
      simp only [hc, Option.bind_some, if_true, h3 x List.mem_cons_self p1, ih, Option.map_some, List.map_cons]
    | false =>
      refine ⟨ys, p', hs.cons x, hJ2, ?_⟩
      rw [List.map_cons]
      unfold lcGo
      rw [h1 x List.mem_cons_self]
      simp only [hc, Option.bind_some, Bool.false_eq_true, if_false, ih]
/-- a loop that may return -/
theorem loop_invR {ψ : SS π} (I : Nat → Sg → π → Prop) : ∀ (ds : List D) (k : Nat) (σ : Sg) (p : π), I k σ p →
    (∀ (i : Nat) (d : D) (σ : Sg) (p : π), ds[i]? = some d → I (k + i) σ p → ∃ σ1, τ d σ = some σ1 ∧ Ends ψ σ1 p fun o => (∃ σ2 p2, o = .nx σ2 p2 ∧ I (k + i + 1) σ2 p2) ∨ (∃ d p2, o = .rt d p2 ∧ R o)) →
    (∀ σ p, I (k + ds.length) σ p → R (.nx σ p)) → ∃ o, sLoop τ ψ ds σ p = some o ∧ R o
  | [], k, σ, p, h, _, hd => ⟨_, rfl, hd σ p h⟩
  | d :: r, k, σ, p, h, hs, hd => by
    obtain ⟨σ1, h1, o, h2, h3⟩ := hs 0 d σ p rfl h
    rcases h3 with ⟨σ2, p2, rfl, h3⟩ | ⟨d2, p2, rfl, h3⟩
    · have := loop_invR I r (k + 1) σ2 p2 h3 (fun i e σ p hi hI => by
        have := hs (i + 1) e σ p (by simpa using hi) (by rw [show k + (i + 1) = k + 1 + i by omega]; exact hI)
        rw [show k + (i + 1) + 1 = k + 1 + i + 1 by omega] at this
        exact this) fun σ p hI => hd σ p (by rw [List.length_cons, show k + (r.length + 1) = k + 1 + r.length by omega]; exact hI)
      obtain ⟨o, g1, g2⟩ := this
      refine ⟨o, ?_, g2⟩
      unfold sLoop
      rw [h1]
      simp only [h2]
      exact g1
    · refine ⟨_, ?_, h3⟩
      unfold sLoop
      rw [h1]
      simp only [h2]
theorem ends_forR {ψ : SS π} (I : Nat → Sg → π → Prop) (h0 : ω σ p = some (ds, p1)) (hI : I 0 σ p1)
    (hs : ∀ (i : Nat) (d : D) (σ : Sg) (p : π), ds[i]? = some d → I i σ p → ∃ σ1, τ d σ = some σ1 ∧ Ends ψ σ1 p fun o => (∃ σ2 p2, o = .nx σ2 p2 ∧ I (i + 1) σ2 p2) ∨ (∃ d p2, o = .rt d p2 ∧ R o))
    (hd : ∀ σ p, I ds.length σ p → R (.nx σ p)) : Ends (sFor ω τ ψ) σ p R := by
  obtain ⟨o, h1, h2⟩ := loop_invR (τ := τ) (ψ := ψ) (R := R) I ds 0 σ p1 hI (fun i d σ p hi h => by
    rw [Nat.zero_add] at h ⊢
    exact hs i d σ p hi h) fun σ p h => hd σ p (by rw [Nat.zero_add] at h; exact h)
  exact ⟨o, by unfold sFor; rw [h0]; exact h1, h2⟩
theorem ends_setP {ζ : SP π} (h : ζ σ p = some (d, σ1', p1)) (hR : R (.nx (σ1'.set i (.val d)) p1)) : Ends (sSetP i ζ) σ p R :=
  ⟨_, by unfold sSetP; rw [h]; rfl, hR⟩
theorem ends_appP {ζ : SP π} (h0 : σ[i]? = some (.own es)) (h : ζ σ p = some (d, σ1', p1)) (h1 : σ1'[i]? = some (.own ds)) (hl : ds.length < sizeLine) (hR : R (.nx (σ1'.set i (.own (ds ++ [d]))) p1)) : Ends (sAppP i ζ) σ p R :=
  ⟨_, by unfold sAppP; rw [h]; show (match σ[i]?, σ1'[i]? with | some (.own _), some (.own ds) => if ds.length < sizeLine then some (Out.nx (σ1'.set i (.own (ds ++ [d]))) p1) else none | _, _ => none) = _; rw [h0, h1]; exact if_pos hl, hR⟩
theorem ends_parLL {χ : SL π} (h1 : ω σ p = some (ds, p1)) (h2 : χ σ p1 = some (es, p2)) (hR : R (.nx ((σ.set i (.own ds)).set j (.own es)) p2)) : Ends (sParLL i j ω χ) σ p R :=
  ⟨_, by unfold sParLL; rw [h1]; show ((χ σ p1).map _) = _; rw [h2]; rfl, hR⟩
theorem o_none : oNone (π := π) σ p = some (none, p) := rfl
theorem o_some {n : Int} (h : α σ p = some (.int n, p1)) : oSome α σ p = some (some n, p1) := by unfold oSome; rw [h]; rfl
theorem e_slice {p3 : π} (h1 : α σ p = some (.tuple ds, p1)) (h2 : u σ p1 = some (lo, p2)) (h3 : v σ p2 = some (hi, p3)) : xSlice α u v σ p = some (.tuple (cutD ds lo hi), p3) := by
  unfold xSlice
  rw [h1]
  show ((u σ p1).bind _) = _
  rw [h2]
  show ((v σ p2).bind _) = _
  rw [h3]; rfl
theorem l_slice {p3 : π} (h1 : α σ p = some (.list ds, p1)) (h2 : u σ p1 = some (lo, p2)) (h3 : v σ p2 = some (hi, p3)) : lSlice α u v σ p = some (cutD ds lo hi, p3) := by
  unfold lSlice
  rw [h1]
  show ((u σ p1).bind _) = _
  rw [h2]
  show ((v σ p2).bind _) = _
  rw [h3]; rfl
theorem e_bor (h0 : σ[i]? = some (.own ds)) (h : α (borS i σ) p = some (d, p1)) (hf : flatD d = true) : xBor i α σ p = some (d, p1) := by
  unfold xBor
  rw [h0]
  show ((α (borS i σ) p).bind _) = _
  rw [h]
  exact if_pos hf
theorem t_bor {c : Bool} (h0 : σ[i]? = some (.own ds)) (h : φ (borS i σ) p = some (c, p1)) : xBorT i φ σ p = some (c, p1) := by
  unfold xBorT
  rw [h0]; exact h
theorem ends_asg {σ1 : Sg} (h : α σ p = some (d, p1)) (ht : τ d σ = some σ1) (hR : R (.nx σ1 p1)) : Ends (sAsg α τ) σ p R :=
  ⟨_, by unfold sAsg; rw [h]; show ((τ d σ).map _) = _; rw [ht]; rfl, hR⟩
theorem ends_par3 {p3 : π} (h1 : α σ p = some (x, p1)) (h2 : β σ p1 = some (y, p2)) (h3 : γ σ p2 = some (z, p3)) (hR : R (.nx (((σ.set i (.val x)).set j (.val y)).set l (.val z)) p3)) : Ends (sPar3 i j l α β γ) σ p R :=
  ⟨_, by unfold sPar3; rw [h1]; show ((β σ p1).bind _) = _; rw [h2]; show ((γ σ p2).map _) = _; rw [h3]; rfl, hR⟩
theorem ends_parLE (h1 : ω σ p = some (ds, p1)) (h2 : β σ p1 = some (y, p2)) (hR : R (.nx ((σ.set i (.own ds)).set j (.val y)) p2)) : Ends (sParLE i j ω β) σ p R :=
  ⟨_, by unfold sParLE; rw [h1]; show ((β σ p1).map _) = _; rw [h2]; rfl, hR⟩
theorem ends_parEL (h1 : α σ p = some (x, p1)) (h2 : ω σ p1 = some (ds, p2)) (hR : R (.nx ((σ.set j (.own ds)).set i (.val x)) p2)) : Ends (sParEL i j α ω) σ p R :=
  ⟨_, by unfold sParEL; rw [h1]; show ((ω σ p1).map _) = _; rw [h2]; rfl, hR⟩
theorem ends_pars (h1 : α σ p = some (x, p1)) (h2 : β σ p1 = some (y, p2)) (hR : R (.nx ((σ.set i (.val x)).set j (.val y)) p2)) : Ends (sPar i j α β) σ p R := ends_par (ev h1 (ev h2 hR))
end
theorem All2.right {κ ρ : Type} {P : ρ → Prop} : ∀ {xs : List κ} {ys : List ρ}, All2 (fun _ y => P y) xs ys → ∀ y ∈ ys, P y
  | _, _, .nil, y, h => by cases h
  | _, _, .cons g r, y, h => by
    rcases List.mem_cons.mp h with e | h
    · rw [e]; exact g
    · exact r.right y h
theorem sIx_of {n d : Nat} {k : Int} (h0 : 0 ≤ k) (h1 : k ≤ n) : HT.sIx n d (some k) = k.toNat := by
  simp only [HT.sIx]
  rw [if_neg (by omega)]
  omega
theorem cut_to {κ : Type} (f : κ → D) {l : List κ} {k : Int} (h0 : 0 ≤ k) (h1 : k ≤ l.length) : cutD (l.map f) none (some k) = (l.take k.toNat).map f := by
  unfold cutD
  rw [sIx_of h0 (by rw [List.length_map]; exact h1)]
  show List.take (k.toNat - 0) (List.drop 0 (l.map f)) = _
  rw [List.drop_zero, Nat.sub_zero, List.map_take]
theorem cut_from {κ : Type} (f : κ → D) {l : List κ} {k : Int} (h0 : 0 ≤ k) (h1 : k ≤ l.length) : cutD (l.map f) (some k) none = (l.drop k.toNat).map f := by
  unfold cutD
  rw [sIx_of h0 (by rw [List.length_map]; exact h1)]
  show List.take ((l.map f).length - k.toNat) (List.drop k.toNat (l.map f)) = _
  rw [← List.map_drop, List.take_of_length_le (by rw [List.length_map, List.length_map, List.length_drop]; exact Nat.le_refl _)]
theorem add_tup {xs ys : List D} (h : xs.length + ys.length ≤ sizeLine) : fAdd (.tuple xs) (.tuple ys) = some (.tuple (xs ++ ys)) := by
  unfold fAdd
  exact if_pos h
theorem gt_t {a b : Int} (h : b < a) : fGt (.int a) (.int b) = some (.bool true) := by
  show some (PyData.bool (decide (b < a))) = _
  rw [decide_eq_true h]
theorem gt_f {a b : Int} (h : ¬ b < a) : fGt (.int a) (.int b) = some (.bool false) := by
  show some (PyData.bool (decide (b < a))) = _
  rw [decide_eq_false h]
theorem lt_t {a b : Int} (h : a < b) : fLt (.int a) (.int b) = some (.bool true) := by
  show some (PyData.bool (decide (a < b))) = _
  rw [decide_eq_true h]
theorem lt_f {a b : Int} (h : ¬ a < b) : fLt (.int a) (.int b) = some (.bool false) := by
  show some (PyData.bool (decide (a < b))) = _
  rw [decide_eq_false h]
theorem le_t {a b : Int} (h : a ≤ b) : fLe (.int a) (.int b) = some (.bool true) := by
  show some (PyData.bool (decide (a ≤ b))) = _
  rw [decide_eq_true h]
theorem le_f {a b : Int} (h : ¬ a ≤ b) : fLe (.int a) (.int b) = some (.bool false) := by
  show some (PyData.bool (decide (a ≤ b))) = _
  rw [decide_eq_false h]
theorem ge_t {a b : Int} (h : b ≤ a) : fGe (.int a) (.int b) = some (.bool true) := by
  show some (PyData.bool (decide (b ≤ a))) = _
  rw [decide_eq_true h]
theorem ge_f {a b : Int} (h : ¬ b ≤ a) : fGe (.int a) (.int b) = some (.bool false) := by
  show some (PyData.bool (decide (b ≤ a))) = _
  rw [decide_eq_false h]
theorem eq_t {a b : Int} (h : a = b) : fEq (.int a) (.int b) = some (.bool true) := by
  rw [eq_int, h, beq_self_eq_true]
theorem eq_f {a b : Int} (h : a ≠ b) : fEq (.int a) (.int b) = some (.bool false) := by
  rw [eq_int, beq_eq_false_iff_ne.mpr h]
theorem ne_t {a b : Int} (h : a ≠ b) : fNe (.int a) (.int b) = some (.bool true) := by
  rw [ne_int, beq_eq_false_iff_ne.mpr h]; rfl
theorem ne_f {a b : Int} (h : a = b) : fNe (.int a) (.int b) = some (.bool false) := by
  rw [ne_int, h, beq_self_eq_true]; rfl
theorem erase_map {κ ρ : Type} (f : κ → ρ) : ∀ (l : List κ) (k : Nat), (l.map f).eraseIdx k = (l.eraseIdx k).map f
  | [], _ => rfl
  | _ :: _, 0 => rfl
  | x :: r, k + 1 => by
    show f x :: (r.map f).eraseIdx k = f x :: (r.eraseIdx k).map f
    rw [erase_map f r k]
theorem p_popAt {π κ : Type} {α : SE π} {σ : Sg} {p p1 : π} {i : Nat} {l : List κ} {e : κ → D} {k : Int} (h : α σ p = some (.int k, p1)) (h0 : σ[i]? = some (.own (l.map e))) (k0 : 0 ≤ k) (k1 : k < l.length) (k2 : k < 2 ^ 63) :
    xPopAt i α σ p = some (e (l[k.toNat]'(by omega)), σ.set i (.own ((l.eraseIdx k.toNat).map e)), p1) := by
  unfold xPopAt
  rw [h]
  show (match σ[i]?, PyData.int k with
    | some (.own ds), .int n => if -(2 ^ 63) ≤ n ∧ n < 2 ^ 63 then (ixN ds.length n).bind fun k => (ds[k]?).map fun d => (d, σ.set i (.own (ds.eraseIdx k)), p1) else none
    | _, _ => none) = _
  rw [h0]
  show (if -(2 ^ 63) ≤ k ∧ k < 2 ^ 63 then _ else _) = _
  rw [if_pos (by omega), List.length_map, ixN_of k0 k1]
  show Option.map _ ((l.map e)[k.toNat]?) = _
  rw [List.getElem?_map, List.getElem?_eq_getElem (by omega), erase_map]; rfl
theorem cut_tail (d : D) (ds : List D) : cutD (d :: ds) (some 1) none = ds := by
  unfold cutD
  have h1 : HT.sIx (d :: ds).length 0 (some 1) = 1 := by
    simp only [HT.sIx]
    rw [if_neg (by decide)]
    simp
  have h2 : HT.sIx (d :: ds).length (d :: ds).length none = (d :: ds).length := rfl
  rw [h1, h2]
  simp
theorem Rp.intB {i : Int} {b : Nat} (h0 : 0 < b) (hb : b ≤ 1920) (h : i.natAbs < 2 ^ b) : Rp (.int i) (b + 2) 0 := by
  have h2 : i.natAbs.log2 < b := by
    by_cases z : i.natAbs = 0
    · rw [z]; simpa using h0
    · exact (Nat.log2_lt z).mpr h
  refine ⟨?_, rfl, Nat.le_refl _, ?_⟩
  · unfold PyData.showable
    exact decide_eq_true (by omega)
  · have := int_text_length_le (a := i) (k := b) h0 h2
    unfold PyData.shown
    exact Nat.le_trans (Nat.le_of_eq (PySem.ofString_length _)) (by omega)
end FL

namespace FL
open PySem L2
theorem z_draw {σ : Sg} {p p1 : PotS} {i : Nat} {m : Int} {ω : SL PotS} (h0 : σ[i]? = some .pot) (h : ω σ p = some ([.int m], p1)) (hm : 0 < m) (hm2 : m < 2 ^ 200) :
    ∃ d p', xFunZ 2 i drawF ω σ p = some (.int d, p') ∧ 0 ≤ d ∧ d < m := by
  obtain ⟨h1, h2⟩ := drawB_lt p1 hm
  exact ⟨_, _, e_Z h0 h rfl (by unfold drawF; exact if_pos ⟨hm, hm2⟩), h1, h2⟩
end FL

namespace FL
/-! ### sums over places -/
def S : Nat → (Nat → Int) → Int
  | 0, _ => 0
  | n + 1, f => f 0 + S n fun i => f (i + 1)
theorem S_congr : ∀ {n : Nat} {f g : Nat → Int}, (∀ i, i < n → f i = g i) → S n f = S n g
  | 0, _, _, _ => rfl
  | n + 1, f, g, h => by
    show f 0 + S n _ = g 0 + S n _
    rw [h 0 (by omega), S_congr fun i hi => h (i + 1) (by omega)]
theorem S_add : ∀ (n : Nat) (f g : Nat → Int), S n (fun i => f i + g i) = S n f + S n g
  | 0, _, _ => rfl
  | n + 1, f, g => by
    show f 0 + g 0 + S n (fun i => f (i + 1) + g (i + 1)) = (f 0 + S n _) + (g 0 + S n _)
    rw [S_add n]
    omega
theorem S_mul (c : Int) : ∀ (n : Nat) (f : Nat → Int), S n (fun i => c * f i) = c * S n f
  | 0, _ => by show (0 : Int) = c * 0; rw [Int.mul_zero]
  | n + 1, f => by
    show c * f 0 + S n (fun i => c * f (i + 1)) = c * (f 0 + S n _)
    rw [S_mul c n, Int.mul_add]
theorem S_zero : ∀ n : Nat, S n (fun _ => 0) = 0
  | 0 => rfl
  | n + 1 => by
    show (0 : Int) + S n _ = 0
    rw [S_zero n]; rfl
theorem S_const (c : Int) : ∀ n : Nat, S n (fun _ => c) = n * c
  | 0 => by show (0 : Int) = ((0 : Nat) : Int) * c; simp
  | n + 1 => by
    show c + S n (fun _ => c) = ((n + 1 : Nat) : Int) * c
    rw [S_const c n]
    push_cast
    rw [Int.add_mul]
    omega
theorem S_swap (m : Nat) : ∀ (n : Nat) (f : Nat → Nat → Int), S n (fun i => S m fun j => f i j) = S m fun j => S n fun i => f i j
  | 0, f => (S_zero m).symm
  | n + 1, f => by
    show S m (fun j => f 0 j) + S n (fun i => S m fun j => f (i + 1) j) = _
    rw [S_swap m n, ← S_add]; rfl
theorem S_prod (n m : Nat) (f g : Nat → Int) : S n f * S m g = S n fun i => S m fun j => f i * g j := by
  have h : ∀ i, (S m fun j => f i * g j) = S m g * f i := fun i => by rw [S_mul, Int.mul_comm]
  rw [S_congr (fun i _ => h i), S_mul, Int.mul_comm]
theorem S_one : ∀ {n k : Nat} {f : Nat → Int}, k < n → (∀ i, i < n → i ≠ k → f i = 0) → S n f = f k
  | n + 1, 0, f, _, h => by
    show f 0 + S n _ = f 0
    rw [S_congr (g := fun _ => 0) fun i hi => h (i + 1) (by omega) (by omega), S_zero]; omega
  | n + 1, k + 1, f, hk, h => by
    show f 0 + S n _ = f (k + 1)
    rw [h 0 (by omega) (by omega), S_one (f := fun i => f (i + 1)) (by omega : k < n) fun i hi hn => h (i + 1) (by omega) (by omega)]; omega
theorem S_nonneg : ∀ {n : Nat} {f : Nat → Int}, (∀ i, i < n → 0 ≤ f i) → 0 ≤ S n f
  | 0, _, _ => Int.le_refl 0
  | n + 1, f, h => by
    have h1 := h 0 (by omega)
    have h2 := S_nonneg (n := n) (f := fun i => f (i + 1)) fun i hi => h (i + 1) (by omega)
    show 0 ≤ f 0 + S n _
    omega
theorem S_all_zero : ∀ {n : Nat} {f : Nat → Int}, (∀ i, i < n → 0 ≤ f i) → S n f = 0 → ∀ i, i < n → f i = 0
  | n + 1, f, h, e, i, hi => by
    have h1 := h 0 (by omega)
    have h2 := S_nonneg (n := n) (f := fun i => f (i + 1)) fun i hi => h (i + 1) (by omega)
    have e : f 0 + S n (fun i => f (i + 1)) = 0 := e
    match i with
    | 0 => omega
    | i + 1 => exact S_all_zero (n := n) (f := fun i => f (i + 1)) (fun i hi => h (i + 1) (by omega)) (by omega) i (by omega)
theorem S_le : ∀ {n : Nat} {f g : Nat → Int}, (∀ i, i < n → f i ≤ g i) → S n f ≤ S n g
  | 0, _, _, _ => Int.le_refl 0
  | n + 1, f, g, h => by
    have h1 := h 0 (by omega)
    have h2 := S_le (n := n) (f := fun i => f (i + 1)) (g := fun i => g (i + 1)) fun i hi => h (i + 1) (by omega)
    show f 0 + S n _ ≤ g 0 + S n _
    omega
theorem S_div {c : Int} : ∀ {n : Nat} {f : Nat → Int}, (∀ i, i < n → ∃ m, f i = c * m) → ∃ m, S n f = c * m
  | 0, _, _ => ⟨0, by show (0 : Int) = c * 0; rw [Int.mul_zero]⟩
  | n + 1, f, h => by
    obtain ⟨a, ha⟩ := h 0 (by omega)
    obtain ⟨b, hb⟩ := S_div (n := n) (f := fun i => f (i + 1)) fun i hi => h (i + 1) (by omega)
    exact ⟨a + b, by show f 0 + S n _ = _; rw [ha, hb, Int.mul_add]⟩
theorem sq_nonneg (x : Int) : 0 ≤ x * x := by
  rcases Int.le_total 0 x with h | h
  · exact Int.mul_nonneg h h
  · exact Int.mul_nonneg_of_nonpos_of_nonpos h h
theorem sq_zero {x : Int} (h : x * x = 0) : x = 0 := by
  rcases Int.mul_eq_zero.mp h with h | h <;> exact h

/-! ### rows that stand apart -/
section
variable {n : Nat} {a : Nat → Nat → Int}
structure Hd (n : Nat) (a : Nat → Nat → Int) : Prop where
  pm : ∀ i k, i < n → k < n → a i k = 1 ∨ a i k = -1
  row : ∀ i j, i < n → j < n → i ≠ j → S n (fun k => a i k * a j k) = 0
theorem Hd.one (h : Hd n a) (i k : Nat) (hi : i < n) (hk : k < n) : a i k * a i k = 1 := by
  rcases h.pm i k hi hk with z | z <;> rw [z] <;> rfl
theorem Hd.same (h : Hd n a) {i : Nat} (hi : i < n) : S n (fun k => a i k * a i k) = n := by
  rw [S_congr (g := fun _ => 1) fun k hk => h.one i k hi hk, S_const]; omega
theorem Hd.colsame (h : Hd n a) {i : Nat} (hi : i < n) : S n (fun k => a k i * a k i) = n := by
  rw [S_congr (g := fun _ => 1) fun k hk => h.one k i hk hi, S_const]; omega
theorem Hd.sum1 (h : Hd n a) : S n (fun i => S n fun j => S n (fun k => a k i * a k j) * S n (fun k => a k i * a k j)) = n * (n * n) := by
  have e1 : ∀ i j, S n (fun k => a k i * a k j) * S n (fun k => a k i * a k j) = S n fun k => S n fun l => a k i * a k j * (a l i * a l j) := fun i j => S_prod n n _ _
  rw [S_congr (fun i _ => S_congr fun j _ => e1 i j)]
  have e2 : (S n fun i => S n fun j => S n fun k => S n fun l => a k i * a k j * (a l i * a l j)) = S n fun k => S n fun l => S n fun i => S n fun j => a k i * a k j * (a l i * a l j) := by
    rw [S_congr (fun i _ => S_swap n n fun j k => S n fun l => a k i * a k j * (a l i * a l j))]
    rw [S_swap]
    refine S_congr fun k _ => ?_
    rw [S_congr (fun i _ => S_swap n n fun j l => a k i * a k j * (a l i * a l j))]
    rw [S_swap]
  rw [e2]
  have e3 : ∀ k l, (S n fun i => S n fun j => a k i * a k j * (a l i * a l j)) = S n (fun i => a k i * a l i) * S n (fun j => a k j * a l j) := fun k l => by
    rw [S_prod]
    refine S_congr fun i _ => S_congr fun j _ => ?_
    rw [Int.mul_assoc, Int.mul_assoc]
    congr 1
    rw [Int.mul_left_comm]
  rw [S_congr (fun k _ => S_congr fun l _ => e3 k l)]
  have e4 : ∀ k, k < n → (S n fun l => S n (fun i => a k i * a l i) * S n (fun j => a k j * a l j)) = n * n := fun k hk => by
    rw [S_one hk fun l hl hn => by rw [h.row k l hk hl (Ne.symm hn)]; rfl, h.same hk]
  rw [S_congr e4, S_const]
theorem Hd.col (h : Hd n a) : ∀ i j, i < n → j < n → i ≠ j → S n (fun k => a k i * a k j) = 0 := by
  intro i j hi hj hn
  have d : ∀ i, i < n → (S n fun j => if i = j then (n : Int) * n else 0) = n * n := fun i hi => by
    rw [S_one hi fun j _ hj => if_neg (Ne.symm hj), if_pos rfl]
  have e : S n (fun i => S n fun j => S n (fun k => a k i * a k j) * S n (fun k => a k i * a k j) + (-1) * (if i = j then (n : Int) * n else 0)) = 0 := by
    rw [S_congr (fun i _ => S_add n _ _), S_add, h.sum1, S_congr (fun i _ => S_mul (-1) n _), S_mul, S_congr d, S_const]
    omega
  have nn : ∀ i, i < n → ∀ j, j < n → 0 ≤ S n (fun k => a k i * a k j) * S n (fun k => a k i * a k j) + (-1) * (if i = j then (n : Int) * n else 0) := fun i hi j hj => by
    by_cases z : i = j
    · subst z
      rw [if_pos rfl, h.colsame hi]; omega
    · rw [if_neg z]
      have := sq_nonneg (S n fun k => a k i * a k j)
      omega
  have z := S_all_zero (fun i hi => S_nonneg (nn i hi)) e i hi
  have z := S_all_zero (nn i hi) z j hj
  rw [if_neg hn] at z
  exact sq_zero (by omega)
theorem Hd.squares (h : Hd n a) {s : Nat → Int} (hs : ∀ k, k < n → s k * s k = 1) : S n (fun i => S n (fun j => a i j * s j) * S n (fun j => a i j * s j)) = n * n := by
  have e1 : ∀ i, S n (fun j => a i j * s j) * S n (fun j => a i j * s j) = S n fun j => S n fun l => s j * s l * (a i j * a i l) := fun i => by
    rw [S_prod]
    refine S_congr fun j _ => S_congr fun l _ => ?_
    rw [show a i j * s j = s j * a i j from Int.mul_comm _ _, show a i l * s l = s l * a i l from Int.mul_comm _ _, Int.mul_assoc, Int.mul_assoc]
    congr 1
    rw [Int.mul_left_comm]
  rw [S_congr (fun i _ => e1 i), S_swap]
  have e2 : ∀ j, j < n → (S n fun i => S n fun l => s j * s l * (a i j * a i l)) = n := fun j hj => by
    rw [S_swap, S_congr (fun l _ => S_mul (s j * s l) n fun i => a i j * a i l), S_one hj fun l hl hn => by rw [h.col j l hj hl (Ne.symm hn), Int.mul_zero], h.colsame hj, hs j hj]
    omega
  rw [S_congr e2, S_const]
theorem Hd.four (h : Hd n a) (h2 : 2 < n) : ∃ m : Int, (n : Int) = 4 * m := by
  have pm := h.pm
  obtain ⟨m, hm⟩ := S_div (c := 4) (n := n) (f := fun k => (a 0 k + a 1 k) * (a 0 k + a 2 k)) fun k hk => by
    rcases pm 0 k (by omega) hk with x | x <;> rcases pm 1 k (by omega) hk with y | y <;> rcases pm 2 k h2 hk with z | z <;> rw [x, y, z]
    · exact ⟨1, rfl⟩
    · exact ⟨0, rfl⟩
    · exact ⟨0, rfl⟩
    · exact ⟨0, rfl⟩
    · exact ⟨0, rfl⟩
    · exact ⟨0, rfl⟩
    · exact ⟨0, rfl⟩
    · exact ⟨1, rfl⟩
  refine ⟨m, ?_⟩
  rw [← hm]
  have e : ∀ k, (a 0 k + a 1 k) * (a 0 k + a 2 k) = a 0 k * a 0 k + a 0 k * a 2 k + (a 1 k * a 0 k + a 1 k * a 2 k) := fun k => by
    rw [Int.add_mul, Int.mul_add, Int.mul_add]
  rw [S_congr (fun k _ => e k), S_add, S_add, S_add, h.same (by omega), h.row 0 2 (by omega) h2 (by omega), h.row 1 0 (by omega) (by omega) (by omega), h.row 1 2 (by omega) h2 (by omega)]
  omega
end

/-! ### rows as lists -/
theorem sum_S : ∀ l : List Int, l.sum = S l.length fun k => l.getD k 0
  | [] => rfl
  | x :: r => by
    rw [List.sum_cons, sum_S r]; rfl
def dot (xs ys : List Int) : Int := (List.zipWith (· * ·) xs ys).sum
theorem dot_S : ∀ {n : Nat} {xs ys : List Int}, xs.length = n → ys.length = n → dot xs ys = S n fun k => xs.getD k 0 * ys.getD k 0
  | 0, [], [], _, _ => rfl
  | n + 1, x :: xs, y :: ys, h1, h2 => by
    have ih := dot_S (n := n) (xs := xs) (ys := ys) (by simpa using h1) (by simpa using h2)
    unfold dot at ih ⊢
    rw [List.zipWith_cons_cons, List.sum_cons, ih]; rfl
def en (t : List (List Int)) (i k : Nat) : Int := (t.getD i []).getD k 0
def PM (l : List Int) : Prop := ∀ x ∈ l, x = 1 ∨ x = -1
structure Tb (n : Nat) (t : List (List Int)) : Prop where
  len : t.length = n
  row : ∀ r ∈ t, r.length = n
  pm : ∀ r ∈ t, PM r
def Ap (t : List (List Int)) : Prop := ∀ i j, i < j → j < t.length → dot (t.getD i []) (t.getD j []) = 0
theorem getD_mem {α : Type} {l : List α} {i : Nat} {d : α} (h : i < l.length) : l.getD i d ∈ l := by
  rw [List.getD_eq_getElem?_getD, List.getElem?_eq_getElem h]
  exact List.getElem_mem h
theorem dot_comm (xs ys : List Int) : dot xs ys = dot ys xs := by
  unfold dot
  rw [List.zipWith_comm]
  congr 2
  funext a b
  exact Int.mul_comm _ _
theorem Tb.hd {n : Nat} {t : List (List Int)} (h : Tb n t) (ha : Ap t) : Hd n (en t) where
  pm := fun i k hi hk => by
    have hm := getD_mem (d := []) (show i < t.length by rw [h.len]; exact hi)
    exact h.pm _ hm _ (getD_mem (by rw [h.row _ hm]; exact hk))
  row := fun i j hi hj hn => by
    have hm := getD_mem (d := []) (show i < t.length by rw [h.len]; exact hi)
    have hm2 := getD_mem (d := []) (show j < t.length by rw [h.len]; exact hj)
    have e := dot_S (h.row _ hm) (h.row _ hm2)
    show S n (fun k => (t.getD i []).getD k 0 * (t.getD j []).getD k 0) = 0
    rw [← e]
    rcases Nat.lt_or_gt_of_ne hn with z | z
    · exact ha i j z (by rw [h.len]; exact hj)
    · rw [dot_comm]; exact ha j i z (by rw [h.len]; exact hi)
theorem map_getD {κ ρ : Type} {l : List κ} {f : κ → ρ} {i : Nat} {d : κ} {e : ρ} (h : i < l.length) : (l.map f).getD i e = f (l.getD i d) := by
  rw [List.getD_eq_getElem?_getD, List.getElem?_map, List.getD_eq_getElem?_getD, List.getElem?_eq_getElem h]; rfl
/-- the table turned -/
def tr (n : Nat) (t : List (List Int)) : List (List Int) := (rng n).map fun j => t.map fun r => r.getD j.toNat 0
theorem rng_getD {n i : Nat} (h : i < n) : (rng n).getD i 0 = (i : Int) := by
  rw [List.getD_eq_getElem?_getD, rng_get h]; rfl
theorem tr_row {n : Nat} {t : List (List Int)} {i : Nat} (h : i < n) : (tr n t).getD i [] = t.map fun r => r.getD i 0 := by
  unfold tr
  rw [map_getD (d := 0) (by rw [rng_len]; exact h), rng_getD h]; rfl
theorem Tb.tr {n : Nat} {t : List (List Int)} (h : Tb n t) : Tb n (tr n t) where
  len := by unfold FL.tr; rw [List.length_map, rng_len]
  row := fun r hr => by
    obtain ⟨j, hj, rfl⟩ := List.mem_map.mp hr
    rw [List.length_map, h.len]
  pm := fun r hr x hx => by
    obtain ⟨j, hj, rfl⟩ := List.mem_map.mp hr
    obtain ⟨s, hs, rfl⟩ := List.mem_map.mp hx
    have hj := rng_mem.mp hj
    exact h.pm s hs _ (getD_mem (by rw [h.row s hs]; omega))
theorem Tb.apTr {n : Nat} {t : List (List Int)} (h : Tb n t) (ha : Ap t) : Ap (FL.tr n t) := fun i j hij hj => by
  have hj : j < n := by rw [h.tr.len] at hj; exact hj
  have hc := (h.hd ha).col i j (by omega) hj (by omega)
  rw [tr_row (by omega), tr_row hj, dot_S (n := n) (by rw [List.length_map, h.len]) (by rw [List.length_map, h.len])]
  refine Eq.trans (S_congr fun k hk => ?_) hc
  rw [map_getD (d := []) (by rw [h.len]; exact hk), map_getD (d := []) (by rw [h.len]; exact hk)]
  rfl
/-- heads and first items made 1 -/
def nrow (r h : List Int) : List Int := (List.zipWith (· * ·) r h).map fun x => x * (List.zipWith (· * ·) r h).getD 0 0
def nrm (t : List (List Int)) : List (List Int) := t.map fun r => nrow r (t.getD 0 [])
theorem zw_getD : ∀ {n : Nat} {xs ys : List Int} {k : Nat}, xs.length = n → ys.length = n → k < n → (List.zipWith (· * ·) xs ys).getD k 0 = xs.getD k 0 * ys.getD k 0
  | n + 1, x :: xs, y :: ys, 0, _, _, _ => rfl
  | n + 1, x :: xs, y :: ys, k + 1, h1, h2, hk => zw_getD (n := n) (xs := xs) (ys := ys) (by simpa using h1) (by simpa using h2) (by omega)
theorem zw_len {n : Nat} {xs ys : List Int} (h1 : xs.length = n) (h2 : ys.length = n) : (List.zipWith (· * ·) xs ys).length = n := by
  rw [List.length_zipWith, h1, h2, Nat.min_self]
theorem zw_pm : ∀ {xs ys : List Int}, PM xs → PM ys → PM (List.zipWith (· * ·) xs ys)
  | [], _, _, _, x, h => by simp at h
  | _ :: _, [], _, _, x, h => by simp at h
  | a :: xs, b :: ys, h1, h2, x, h => by
    rw [List.zipWith_cons_cons] at h
    rcases List.mem_cons.mp h with e | h
    · rw [e]
      rcases h1 a List.mem_cons_self with z | z <;> rcases h2 b List.mem_cons_self with w | w <;> rw [z, w]
      · exact .inl rfl
      · exact .inr rfl
      · exact .inr rfl
      · exact .inl rfl
    · exact zw_pm (fun x hx => h1 x (List.mem_cons_of_mem _ hx)) (fun x hx => h2 x (List.mem_cons_of_mem _ hx)) x h
theorem nrow_getD {n : Nat} {r h : List Int} {k : Nat} (h1 : r.length = n) (h2 : h.length = n) (hk : k < n) : (nrow r h).getD k 0 = r.getD k 0 * h.getD k 0 * (r.getD 0 0 * h.getD 0 0) := by
  unfold nrow
  rw [map_getD (d := 0) (by rw [zw_len h1 h2]; exact hk), zw_getD h1 h2 hk, zw_getD h1 h2 (by omega)]
theorem Tb.nrm {n : Nat} {t : List (List Int)} (h : Tb n t) (hn : 0 < n) : Tb n (nrm t) where
  len := by unfold FL.nrm; rw [List.length_map, h.len]
  row := fun r hr => by
    obtain ⟨s, hs, rfl⟩ := List.mem_map.mp hr
    unfold nrow
    rw [List.length_map, zw_len (h.row s hs) (h.row _ (getD_mem (by rw [h.len]; exact hn)))]
  pm := fun r hr => by
    obtain ⟨s, hs, rfl⟩ := List.mem_map.mp hr
    have hm := getD_mem (d := []) (show 0 < t.length by rw [h.len]; exact hn)
    have hp := zw_pm (h.pm s hs) (h.pm _ hm)
    have hl := zw_len (h.row s hs) (h.row _ hm)
    intro x hx
    obtain ⟨y, hy, rfl⟩ := List.mem_map.mp hx
    have hz := hp _ (getD_mem (d := 0) (show 0 < (List.zipWith (· * ·) s (t.getD 0 [])).length by rw [hl]; exact hn))
    rcases hp y hy with e | e <;> rcases hz with w | w <;> rw [e, w]
    · exact .inl rfl
    · exact .inr rfl
    · exact .inr rfl
    · exact .inl rfl
theorem Tb.nrmDot {n : Nat} {t : List (List Int)} (h : Tb n t) (hn : 0 < n) {i j : Nat} (hi : i < n) (hj : j < n) : ∃ c : Int, dot ((FL.nrm t).getD i []) ((FL.nrm t).getD j []) = c * dot (t.getD i []) (t.getD j []) := by
  have hm0 := getD_mem (d := []) (show 0 < t.length by rw [h.len]; exact hn)
  have hmi := getD_mem (d := []) (show i < t.length by rw [h.len]; exact hi)
  have hmj := getD_mem (d := []) (show j < t.length by rw [h.len]; exact hj)
  have h0 := h.row _ hm0
  have ei : (FL.nrm t).getD i [] = nrow (t.getD i []) (t.getD 0 []) := by unfold FL.nrm; rw [map_getD (d := []) (by rw [h.len]; exact hi)]
  have ej : (FL.nrm t).getD j [] = nrow (t.getD j []) (t.getD 0 []) := by unfold FL.nrm; rw [map_getD (d := []) (by rw [h.len]; exact hj)]
  have nl : ∀ r, r ∈ t → (nrow r (t.getD 0 [])).length = n := fun r hr => by unfold nrow; rw [List.length_map, zw_len (h.row r hr) h0]
  refine ⟨((t.getD i []).getD 0 0 * (t.getD 0 []).getD 0 0) * ((t.getD j []).getD 0 0 * (t.getD 0 []).getD 0 0), ?_⟩
  rw [ei, ej, dot_S (nl _ hmi) (nl _ hmj), dot_S (h.row _ hmi) (h.row _ hmj), ← S_mul]
  refine S_congr fun k hk => ?_
  rw [nrow_getD (h.row _ hmi) h0 hk, nrow_getD (h.row _ hmj) h0 hk]
  have one : (t.getD 0 []).getD k 0 * (t.getD 0 []).getD k 0 = 1 := by
    rcases h.pm _ hm0 _ (getD_mem (d := 0) (by rw [h0]; exact hk)) with z | z <;> rw [z] <;> rfl
  generalize (t.getD i []).getD k 0 = a at *
  generalize (t.getD j []).getD k 0 = b at *
  generalize (t.getD 0 []).getD k 0 = c at *
  generalize (t.getD i []).getD 0 0 * (t.getD 0 []).getD 0 0 = u
  generalize (t.getD j []).getD 0 0 * (t.getD 0 []).getD 0 0 = v
  calc a * c * u * (b * c * v) = (c * c) * (u * v * (a * b)) := by
        simp only [Int.mul_assoc, Int.mul_comm, Int.mul_left_comm]
    _ = u * v * (a * b) := by rw [one, Int.one_mul]
theorem Tb.apNrm {n : Nat} {t : List (List Int)} (h : Tb n t) (hn : 0 < n) (ha : Ap t) : Ap (FL.nrm t) := fun i j hij hj => by
  have hj : j < n := by rw [(h.nrm hn).len] at hj; exact hj
  obtain ⟨c, hc⟩ := h.nrmDot hn (show i < n by omega) hj
  rw [hc, ha i j hij (by rw [h.len]; exact hj), Int.mul_zero]
/-- the sums of the rows behind the first -/
theorem Tb.nrmSum {n : Nat} {t : List (List Int)} (h : Tb n t) (hn : 0 < n) (ha : Ap t) : ∀ r ∈ (FL.nrm t).tail, r.sum = 0 := fun r hr => by
  unfold FL.nrm at hr
  have h0 := getD_mem (d := []) (show 0 < t.length by rw [h.len]; exact hn)
  generalize hh : t.getD 0 [] = hd at *
  rw [← List.map_tail] at hr
  obtain ⟨s, hs, rfl⟩ := List.mem_map.mp hr
  have hsm := List.mem_of_mem_tail hs
  have dz : dot s hd = 0 := by
    obtain ⟨i, hi, rfl⟩ := List.mem_iff_getElem.mp hs
    rw [List.getElem_tail]
    have hi2 : i + 1 < t.length := by rw [List.length_tail] at hi; omega
    have := ha 0 (i + 1) (by omega) hi2
    rw [dot_comm, hh] at this
    rw [List.getD_eq_getElem?_getD, List.getElem?_eq_getElem hi2] at this
    exact this
  unfold nrow
  have : ∀ (l : List Int) (c : Int), (l.map fun x => x * c).sum = l.sum * c := by
    intro l c
    induction l with
    | nil => simp
    | cons x r ih => rw [List.map_cons, List.sum_cons, List.sum_cons, ih, Int.add_mul]
  rw [this]
  unfold dot at dz
  rw [dz, Int.zero_mul]
end FL

namespace Wk
open PySem PySem.Spec PyProof.Rows L2 FL
def topS (i : Nat) : Stmt := PySem.Challenge.pw_evensigns_k29_whole_main_table_squares.main.body.getD i (.Pass ⟨0, 0, 0, 0⟩)

structure Txt (K : PySem.W.Frag) (mg : Str → Option Value) where
  a_product_sum : Addr
  d_product_sum : FuncData
  F_product_sum : Fun K "product_sum" "product_sum" (topS 1) a_product_sum d_product_sum
  m_product_sum : mg "product_sum" = some (.ref a_product_sum)
  b_product_sum : Binds K d_product_sum ["one", "other"] []
  a_apart_fault : Addr
  d_apart_fault : FuncData
  F_apart_fault : Fun K "apart_fault" "apart_fault" (topS 2) a_apart_fault d_apart_fault
  m_apart_fault : mg "apart_fault" = some (.ref a_apart_fault)
  b_apart_fault : Binds K d_apart_fault ["table"] []
  a_table_sums : Addr
  d_table_sums : FuncData
  F_table_sums : Fun K "table_sums" "table_sums" (topS 3) a_table_sums d_table_sums
  m_table_sums : mg "table_sums" = some (.ref a_table_sums)
  b_table_sums : Binds K d_table_sums ["table", "signs"] []
  a_table_worst : Addr
  d_table_worst : FuncData
  F_table_worst : Fun K "table_worst" "table_worst" (topS 4) a_table_worst d_table_worst
  m_table_worst : mg "table_worst" = some (.ref a_table_worst)
  b_table_worst : Binds K d_table_worst ["table", "signs"] []
  a_table_squares : Addr
  d_table_squares : FuncData
  F_table_squares : Fun K "table_squares" "table_squares" (topS 5) a_table_squares d_table_squares
  m_table_squares : mg "table_squares" = some (.ref a_table_squares)
  b_table_squares : Binds K d_table_squares ["table", "signs"] []
  k0_table_squares : KBinds K d_table_squares ["table", "signs"] ["signs", "table"] (gU [1, 0] 2) (gVs [1, 0] 2)
  a_normal_table : Addr
  d_normal_table : FuncData
  F_normal_table : Fun K "normal_table" "normal_table" (topS 6) a_normal_table d_normal_table
  m_normal_table : mg "normal_table" = some (.ref a_normal_table)
  b_normal_table : Binds K d_normal_table ["table"] []
  k0_normal_table : KBinds K d_normal_table ["table"] ["table"] (gU [0] 1) (gVs [0] 1)
  a_lots_of_signs : Addr
  d_lots_of_signs : FuncData
  F_lots_of_signs : Fun K "lots_of_signs" "lots_of_signs" (topS 7) a_lots_of_signs d_lots_of_signs
  m_lots_of_signs : mg "lots_of_signs" = some (.ref a_lots_of_signs)
  b_lots_of_signs : Binds K d_lots_of_signs ["table"] []
  k0_lots_of_signs : KBinds K d_lots_of_signs ["table"] ["table"] (gU [0] 1) (gVs [0] 1)
  a__law_pot : Addr
  d__law_pot : FuncData
  F__law_pot : Fun K "_law_pot" "_law_pot" (topS 9) a__law_pot d__law_pot
  m__law_pot : mg "_law_pot" = some (.ref a__law_pot)
  b__law_pot : Binds K d__law_pot ["script"] []
  a__law_draw : Addr
  d__law_draw : FuncData
  F__law_draw : Fun K "_law_draw" "_law_draw" (topS 10) a__law_draw d__law_draw
  m__law_draw : mg "_law_draw" = some (.ref a__law_draw)
  b__law_draw : Binds K d__law_draw ["pot", "many"] []
  a__law_mixed : Addr
  d__law_mixed : FuncData
  F__law_mixed : Fun K "_law_mixed" "_law_mixed" (topS 11) a__law_mixed d__law_mixed
  m__law_mixed : mg "_law_mixed" = some (.ref a__law_mixed)
  b__law_mixed : Binds K d__law_mixed ["pot", "items"] []
  a__law_signs : Addr
  d__law_signs : FuncData
  F__law_signs : Fun K "_law_signs" "_law_signs" (topS 12) a__law_signs d__law_signs
  m__law_signs : mg "_law_signs" = some (.ref a__law_signs)
  b__law_signs : Binds K d__law_signs ["pot", "n"] []
  a__law_table : Addr
  d__law_table : FuncData
  F__law_table : Fun K "_law_table" "_law_table" (topS 13) a__law_table d__law_table
  m__law_table : mg "_law_table" = some (.ref a__law_table)
  b__law_table : Binds K d__law_table ["pot", "n"] []
  a__law_apart : Addr
  d__law_apart : FuncData
  F__law_apart : Fun K "_law_apart" "_law_apart" (topS 14) a__law_apart d__law_apart
  m__law_apart : mg "_law_apart" = some (.ref a__law_apart)
  b__law_apart : Binds K d__law_apart ["table"] []
  a__law_rows : Addr
  d__law_rows : FuncData
  F__law_rows : Fun K "_law_rows" "_law_rows" (topS 15) a__law_rows d__law_rows
  m__law_rows : mg "_law_rows" = some (.ref a__law_rows)
  b__law_rows : Binds K d__law_rows ["table", "signs"] []
  z_abs : mg "abs" = none
  z_any : mg "any" = none
  z_enumerate : mg "enumerate" = none
  z_int : mg "int" = none
  z_len : mg "len" = none
  z_list : mg "list" = none
  z_max : mg "max" = none
  z_range : mg "range" = none
  z_repr : mg "repr" = none
  z_sum : mg "sum" = none
  z_tuple : mg "tuple" = none
  z_zip : mg "zip" = none
section
variable {P : Program} {w : World} {K : PySem.W.Frag} {mg : Str → Option Value} {base : Heap}
/-! _law_draw -/
abbrev st__law_draw : Stmt := topS 10
theorem sc__law_draw : FnScope ["pot", "many", "great", "cell", "own"] ["pot", "many"] (defScope st__law_draw) := ⟨rfl, rfl, rfl, by decide +kernel, rfl, by decide +kernel, by decide +kernel⟩
def f__law_draw : List D → PotS → Option (D × PotS) := drawF
theorem dk_great_great : decide ((Sum.inr ("great" : Str) : Key) = Sum.inr ("great" : Str)) = true := by decide +kernel
theorem dk_great_seal : decide ((Sum.inr ("great" : Str) : Key) = Sum.inr ("seal" : Str)) = false := by decide +kernel
theorem dk_great_turn : decide ((Sum.inr ("great" : Str) : Key) = Sum.inr ("turn" : Str)) = false := by decide +kernel
theorem dk_seal_great : decide ((Sum.inr ("seal" : Str) : Key) = Sum.inr ("great" : Str)) = false := by decide +kernel
theorem dk_seal_seal : decide ((Sum.inr ("seal" : Str) : Key) = Sum.inr ("seal" : Str)) = true := by decide +kernel
theorem dk_seal_turn : decide ((Sum.inr ("seal" : Str) : Key) = Sum.inr ("turn" : Str)) = false := by decide +kernel
theorem dk_turn_great : decide ((Sum.inr ("turn" : Str) : Key) = Sum.inr ("great" : Str)) = false := by decide +kernel
theorem dk_turn_seal : decide ((Sum.inr ("turn" : Str) : Key) = Sum.inr ("seal" : Str)) = false := by decide +kernel
theorem dk_turn_turn : decide ((Sum.inr ("turn" : Str) : Key) = Sum.inr ("turn" : Str)) = true := by decide +kernel
theorem get_great (g : Addr) (p : PotS) : valV (potKV g p) (Sum.inr ("great" : Str) : Key) = some (.ref g) := by
  simp only [potKV, valV, List.find?_cons, dk_great_great]; rfl
theorem get_seal (g : Addr) (p : PotS) : valV (potKV g p) (Sum.inr ("seal" : Str) : Key) = some (.int p.a) := by
  simp only [potKV, valV, List.find?_cons, dk_great_seal, dk_seal_seal]; rfl
theorem get_turn (g : Addr) (p : PotS) : valV (potKV g p) (Sum.inr ("turn" : Str) : Key) = some (.int p.b) := by
  simp only [potKV, valV, List.find?_cons, dk_great_turn, dk_seal_turn, dk_turn_turn]; rfl
theorem put_turn (g : Addr) (p : PotS) (n : Int) : putK (potKV g p) (Sum.inr ("turn" : Str) : Key) (.int n) = potKV g { p with b := n } := by
  unfold putK potKV
  simp only [List.any_cons, dk_great_turn, dk_seal_turn, dk_turn_turn, decide_true, decide_false, Bool.false_or, Bool.true_or, if_true, List.map_cons, List.map_nil, of_decide_eq_false dk_great_turn, of_decide_eq_false dk_seal_turn, if_false]
theorem put_seal (g : Addr) (p : PotS) (n : Int) : putK (potKV g p) (Sum.inr ("seal" : Str) : Key) (.int n) = potKV g { p with a := n } := by
  unfold putK potKV
  simp only [List.any_cons, dk_great_seal, dk_seal_seal, decide_true, decide_false, Bool.false_or, Bool.true_or, if_true, List.map_cons, List.map_nil, of_decide_eq_false dk_great_seal, of_decide_eq_false dk_turn_seal, if_false]
theorem ok__law_draw (T : Txt K mg) : FnOk P w K mg base CX0 1 T.a__law_draw T.d__law_draw ["pot", "many"] (spZ K ZB 2 f__law_draw) := by
  refine T.F__law_draw.ok sc__law_draw (fun vs H Q E ⟨pa, ga, B, ws, ds, p, z, p', h0, h1, h2, h3, h4, h5, _⟩ => by rw [h0, List.length_cons, DqAll.len h4]; exact h5) fun cd A outer s H vs Q E hr hs => ?_
  have nd := sc__law_draw.nd
  have hu := hu_of hr
  have hu6 := hu65 hr
  refine ⟨_, pss_cons (ps_set (i := 2) nd rfl (.inl rfl) (pe_dget hu (pv 0) pe_str (fun _ _ => rfl)))
    (pss_cons (ps_if (pt_cmpR (op_neD (Nat.lt_of_le_of_lt (Nat.add_le_add_left (by decide : 64 ≤ 70) _) hu6)) (pv 2) (pe_lst pa_nil) (nomark _))
      (pss_cons (ps_set (i := 3) nd rfl (.inl rfl) (pe_bm0 PySem.F.plainAttrs_list PySem.F.slot_list_pop PySem.F.type_list_pop mt_pop (pv 2)))
      (pss_cons (ps_if (pt_cmpR op_ge (pv 3) (pv 1) (nomark _)) (pss_one (ps_expr (pe_bm PySem.F.plainAttrs_list PySem.F.slot_list_append PySem.F.type_list_append mt_append (pv 2) (pa_cons (pe_op op_fdivW (pv 3) (pv 1)) pa_nil)))) pss_nil)
      (pss_one (ps_ret (pe_op op_mod (pe_callTy call_int1 (by rfl) T.z_int (by decide +kernel) (pa_cons (pv 3) pa_nil)) (pv 1)))))) pss_nil)
    (pss_cons (ps_dput hu (pv 0) pe_str (pe_op op_add (pe_dget hu (pv 0) pe_str (fun _ _ => rfl)) pe_int) rfl)
    (pss_cons (ps_set (i := 4) nd rfl (.inl rfl) (pe_op op_mod (pe_callTy call_int1 (by rfl) T.z_int (by decide +kernel) (pa_cons (pe_op op_add (pe_op op_add (pe_op op_mul (pe_dget hu (pv 0) pe_str (fun _ _ => rfl)) pe_int) (pe_op op_mul (pe_dget hu (pv 0) pe_str (fun _ _ => rfl)) pe_int)) pe_int) pa_nil)) pe_int))
    (pss_cons (ps_set (i := 4) nd rfl (.inl rfl) (pe_op op_mod (pe_callTy call_int1 (by rfl) T.z_int (by decide +kernel) (pa_cons (pe_op op_add (pe_op op_mul (pv 4) (pv 4)) (pe_op op_mul (pe_dget hu (pv 0) pe_str (fun _ _ => rfl)) pe_int)) pa_nil)) pe_int))
    (pss_cons (ps_dput hu (pv 0) pe_str (pe_op op_mod (pe_callTy call_int1 (by rfl) T.z_int (by decide +kernel) (pa_cons (pe_op op_add (pe_op op_mul (pe_dget hu (pv 0) pe_str (fun _ _ => rfl)) pe_int) (pv 4)) pa_nil)) pe_int) rfl)
    (pss_one (ps_ret (pe_op op_mod (pe_callTy call_int1 (by rfl) T.z_int (by decide +kernel) (pa_cons (pe_op op_fdiv (pv 4) pe_int) pa_nil)) (pv 1))))))))), ?_⟩
  obtain ⟨pa, ga, B, ws, ds, p, z, p', rfl, sb, ⟨hne, hp, hg, hlen⟩, hB, hd, hl, hz, k⟩ := hs
  have hBp : B pa = none := hB pa (by simp [ZB])
  have hBg : B ga = none := hB ga (by simp [ZB])
  unfold f__law_draw drawF at hz
  split at hz
  case h_2 => cases hz
  rename_i m
  split at hz
  case isFalse => cases hz
  rename_i hm
  cases hz
  cases hd with
  | cons d1 d2 =>
  cases d2
  cases d1
  have fin : ∀ (H' : Hp) (v : V), (∀ b, b ≠ pa → b ≠ ga → H b ≠ none → H' b = H b) → ZB.ok pa ga H' (drawB p m).2 → v = .int (drawB p m).1 → Q v H' := by
    intro H' v hk hok hv
    subst hv
    refine k _ H' B ⟨Same.refl B, fun b o n e => ?_, fun b o e => ?_, fun b h => .inl h, hok⟩ (.int _)
    · have n1 : b ≠ pa := fun z => n (by rw [z]; simp [ZB])
      have n2 : b ≠ ga := fun z => n (by rw [z]; simp [ZB])
      rw [hk b n1 n2 (by rw [e]; simp)]; exact e
    · have e' := sb b o e
      rw [hk b (ne_of_none e hBp) (ne_of_none e hBg) (by rw [e']; simp)]; exact e'
  have kget : ∀ {H' : Hp} {q : PotS} {n : Str} {v : V}, H' pa = some (.dK (potKV ga q)) → valV (potKV ga q) (Sum.inr n : Key) = some v → DGet H' pa (.str n) (some v) := fun {H' q n v} h1 h2 => by
    have := DGet.k (k := Sum.inr n) h1
    rw [h2] at this; exact this
  refine ⟨_, rfl, _, _, rfl, kget hp (get_great ga p), ?_⟩
  refine ⟨_, rfl, Nat.zero_le _, fun q hq => ?_⟩
  have Hg1 : (upd H q (.lst [])) ga = some (.lst (p.great.map .int)) := by rw [upd_ne (ne_of_none hg hq)]; exact hg
  have Hp1 : (upd H q (.lst [])) pa = some (.dK (potKV ga p)) := by rw [upd_ne (ne_of_none hp hq)]; exact hp
  have keep0 : ∀ b, H b ≠ none → (upd H q (.lst [])) b = H b := fun b h => upd_ne fun z => h (by rw [z]; exact hq)
  refine ⟨.list (p.great.map .int), .list [], .lst (SqL.of Hg1) (dp_ints _), .lst (SqL.of upd_same) .nil, shaped_ints _, shaped_ints [], _, rfl, ?_⟩
  cases hgr : p.great.getLast? with
  | some c =>
    have hne' : p.great ≠ [] := fun z => by rw [z] at hgr; cases hgr
    have e1 : (!PyData.eqv (PyData.list (p.great.map PyData.int)) (PyData.list [])) = true := by
      cases hh : p.great with
      | nil => exact absurd hh hne'
      | cons _ _ => simp [PyData.eqv, PyData.eqvAll]
    rw [e1]
    refine iteT ?_
    have dB : drawB p m = (c % m, { p with great := drawG c m p.great.dropLast }) := by unfold drawB; rw [hgr]
    have hlast : (p.great.map V.int)[(p.great.map V.int).length - 1]? = some (.int c) := by
      rw [List.length_map, List.getElem?_map, ← List.getLast?_eq_getElem?, hgr]; rfl
    have hpos : 0 < p.great.length := List.length_pos_iff.mpr hne'
    have fin2 : ∀ (r : List Int) (H' : Hp), r = drawG c m p.great.dropLast → r.length ≤ 63 → H' ga = some (.lst (r.map .int)) → (∀ b, b ≠ ga → H' b = (upd H q (.lst [])) b) → Q (.int (c % m)) H' := fun r H' hr' hl' h1 h2 => by
      refine fin H' _ (fun b n1 n2 h => by rw [h2 b n2]; exact keep0 b h) ⟨hne, ?_, ?_, ?_⟩ (by rw [dB])
      · rw [h2 pa hne, Hp1, dB]; rfl
      · rw [h1, dB, hr']
      · rw [dB]; rw [hr'] at hl'; exact hl'
    refine ⟨_, rfl, .inl ⟨rfl, _, SqL.of Hg1⟩, _, _, _, rfl, rfl, Hg1, hlast, ?_⟩
    rw [← List.map_dropLast]
    refine ⟨_, rfl, _, rfl, _, _, rfl, rfl, _, rfl, ?_⟩
    refine ite2 (fun hc => ?_) (fun hc => ?_)
    · have hc' : m ≤ c := of_decide_eq_true hc
      refine ⟨_, rfl, .inl ⟨rfl, _, SqL.of upd_same⟩, _, rfl, _, rfl, _, _, rfl, rfl, wide_div (b := 200) hm.1 (by omega) (by decide) (by decide), _, _, _, rfl, rfl, upd_same, ?_, ?_⟩
      · rw [List.length_map, List.length_dropLast]
        exact Nat.lt_of_le_of_lt (by omega) (by decide : 63 < sizeLine)
      · refine ⟨_, rfl, .inl ⟨_, rfl, _, rfl, _, _, rfl, rfl, hm.1, ?_⟩⟩
        refine fin2 (p.great.dropLast ++ [c / m]) _ (by unfold drawG; rw [if_pos hc']) (by rw [List.length_append, List.length_dropLast, List.length_singleton]; omega) (by rw [upd_same, List.map_append]; rfl) fun b hb => by rw [upd_ne hb, upd_ne hb]
    · have hc' : ¬ m ≤ c := fun z => hc (decide_eq_true z)
      refine ⟨_, rfl, .inl ⟨_, rfl, _, rfl, _, _, rfl, rfl, hm.1, ?_⟩⟩
      exact fin2 p.great.dropLast _ (by unfold drawG; rw [if_neg hc']) (by rw [List.length_dropLast]; omega) upd_same fun b hb => upd_ne hb
  | none =>
    have hnil : p.great = [] := List.getLast?_eq_none_iff.mp hgr
    have e1 : (!PyData.eqv (PyData.list (p.great.map PyData.int)) (PyData.list [])) = false := by
      rw [hnil]; rfl
    rw [e1]
    refine iteF ?_
    have dB : drawB p m = ((((p.a * 69621 + (p.b + 1) * 40503 + 29) % 4294967279) * ((p.a * 69621 + (p.b + 1) * 40503 + 29) % 4294967279) + p.a * 7) % 4294967231 / 64 % m, { p with a := (p.a * 48271 + (((p.a * 69621 + (p.b + 1) * 40503 + 29) % 4294967279) * ((p.a * 69621 + (p.b + 1) * 40503 + 29) % 4294967279) + p.a * 7) % 4294967231) % 4294967291, b := p.b + 1 }) := by
      unfold drawB; rw [hgr]
    -- pot['turn'] = pot['turn'] + 1
    refine ⟨_, rfl, _, _, rfl, kget Hp1 (get_turn ga p), _, _, rfl, rfl, _, rfl, pa, _, rfl, DPut.k (k := Sum.inr ("turn" : Str)) Hp1 (by show 3 < sizeLine; decide), ?_⟩
    rw [put_turn]
    have h2 : (upd (upd H q (.lst [])) pa (.dK (potKV ga { p with b := p.b + 1 }))) pa = some (.dK (potKV ga { p with b := p.b + 1 })) := upd_same
    have ho1 := Int.emod_nonneg (p.a * 69621 + (p.b + 1) * 40503 + 29) (show (4294967279 : Int) ≠ 0 by decide)
    have ho2 := Int.emod_lt_of_pos (p.a * 69621 + (p.b + 1) * 40503 + 29) (show (0 : Int) < 4294967279 by decide)
    refine ⟨_, rfl, _, _, rfl, kget h2 (get_seal ga _), _, _, rfl, rfl, .inr ⟨by decide, by decide⟩, _, rfl, _, _, rfl, kget h2 (get_turn ga _), _, _, rfl, rfl, .inr ⟨by decide, by decide⟩, _, _, rfl, rfl, _, _, rfl, rfl,
      .inl ⟨_, rfl, _, _, rfl, rfl, (by show (0 : Int) < 4294967279; decide), ?_⟩⟩
    refine ⟨_, rfl, _, rfl, _, _, rfl, rfl, .inl ⟨by show -(2 ^ 64 : Int) < (p.a * 69621 + (p.b + 1) * 40503 + 29) % 4294967279; omega, by show (p.a * 69621 + (p.b + 1) * 40503 + 29) % 4294967279 < (2 ^ 64 : Int); omega⟩, _, rfl, _, _, rfl, kget h2 (get_seal ga _), _, _, rfl, rfl, .inr ⟨by decide, by decide⟩, _, _, rfl, rfl,
      .inl ⟨_, rfl, _, _, rfl, rfl, (by show (0 : Int) < 4294967231; decide), ?_⟩⟩
    refine ⟨_, rfl, _, _, rfl, kget h2 (get_seal ga _), _, _, rfl, rfl, .inr ⟨by decide, by decide⟩, _, rfl, _, _, rfl, rfl,
      .inl ⟨_, rfl, _, _, rfl, rfl, (by show (0 : Int) < 4294967291; decide), _, rfl, pa, _, rfl, DPut.k (k := Sum.inr ("seal" : Str)) h2 (by show 3 < sizeLine; decide), ?_⟩⟩
    rw [put_seal]
    refine ⟨_, rfl, _, _, rfl, rfl, ⟨by decide, by decide⟩, .inl ⟨_, rfl, _, rfl, _, _, rfl, rfl, hm.1, ?_⟩⟩
    refine fin _ _ (fun b n1 n2 h => by rw [upd_ne n1, upd_ne n1]; exact keep0 b h) ⟨hne, ?_, ?_, ?_⟩ (by rw [dB])
    · rw [upd_same, dB]
    · rw [upd_ne hne.symm, upd_ne hne.symm, Hg1, dB]
    · rw [dB]; exact hlen

/-! _law_pot -/
abbrev st__law_pot : Stmt := topS 9
theorem sc__law_pot : FnScope ["script", "cells", "seal", "own", "cell"] ["script"] (defScope st__law_pot) := ⟨rfl, rfl, rfl, by decide +kernel, rfl, by decide +kernel, by decide +kernel⟩
theorem ok__law_pot (T : Txt K mg) : FnOk P w K mg base CX0 1 T.a__law_pot T.d__law_pot ["script"] (spMk K ZB) := by
  refine T.F__law_pot.ok sc__law_pot (fun vs H Q E ⟨a, ns, h0, _⟩ => by rw [h0]; rfl) fun cd A outer s H vs Q E hr hs => ?_
  have nd := sc__law_pot.nd
  refine ⟨_, pss_cons (ps_par (i := 1) (j := 2) rfl nd rfl rfl (by decide) rfl rfl (pa_cons
      (pe_lc (own := [("own", 3)]) (g := gName 3) (tt := tYes) rfl nd (pi_list (pe_slice sl_list (pv 0) po_none (po_some pe_int))) (blkOk_by (N := ["script", "cells", "seal", "own", "cell"]) (sc := defScope st__law_pot) (by decide +kernel))
        (fun _ _ _ _ _ => pg_name (i := 3) nd rfl (Or.inl rfl)) (fun _ _ _ _ _ => pts_nil)
        (fun _ _ _ _ _ => pe_op op_add (pe_op op_mul pe_int (pe_callB call_abs (by rfl) T.z_abs (by decide +kernel) (pa_cons (pv 3) pa_nil))) (pe_callTy call_int1 (by rfl) T.z_int (by decide +kernel) (pa_cons (pe_cmpR op_lt (pv 3) pe_int (nomark _)) pa_nil))))
      (pa_cons (pe_op op_add pe_int (pe_op op_mul pe_int (pe_callB call_len_seq (by rfl) T.z_len PySem.boot_len (pa_cons (pv 0) pa_nil)))) pa_nil)) (by rfl))
    (pss_cons (ps_for PassesOwn.never rfl (pi_list (pv 1)) (pg_name (i := 4) nd rfl (Or.inl rfl))
      (pss_one (ps_set (i := 2) nd rfl (.inl rfl) (pe_op op_mod (pe_callTy call_int1 (by rfl) T.z_int (by decide +kernel) (pa_cons (pe_op op_add (pe_op op_add (pe_op op_mul (pv 2) pe_int) (pv 4)) pe_int) pa_nil)) pe_int))))
    (pss_one (ps_ret (pe_disp (pps_cons pe_str (pe_revL (pe_lc (own := [("own", 3)]) (g := gName 3) rfl nd (pi_list (pv 1)) (blkOk_by (N := ["script", "cells", "seal", "own", "cell"]) (sc := defScope st__law_pot) (by decide +kernel))
        (fun _ _ _ _ _ => pg_name (i := 3) nd rfl (Or.inl rfl)) (fun _ _ _ _ _ => pts_one (pt_cmpR op_ge (pv 3) (pe_op op_pow pe_int pe_int) (nomark _)))
        (fun _ _ _ _ _ => pv 3))) (pps_cons pe_str (pv 2) (pps_cons pe_str pe_int pps_nil))) (by rfl) (by rfl) (fun z => by cases z) (by decide))))), ?_⟩
  obtain ⟨a, ns, rfl, hS, hlen, k⟩ := hs
  obtain ⟨ms, hms, hml⟩ := cut_ints ns 62
  -- cells
  refine ⟨_, rfl, 62, rfl, a, ns.map .int, rfl, hS, fun q hq => ⟨q, rfl, ⟨_, SqL.of upd_same⟩, fun L hL => ?_⟩⟩
  have sq0 : Same H (upd H q (.lst (cutV (ns.map V.int) none (some 62)))) := Same.put hq
  have nLq : q ≠ L := fun z => by rw [← z, upd_same] at hL; cases hL
  have hL0 : H L = none := sq0.free hL
  refine lc_list (K := K) (a := q) (xs := cutV (ns.map V.int) none (some 62)) (fun i H1 => ∃ cs : List Int, cs.length = i ∧ H1 L = some (.lst (cs.map .int)) ∧ H1 q = some (.lst (cutV (ns.map V.int) none (some 62))) ∧ Same H H1)
    ⟨[], rfl, upd_same, by rw [upd_ne nLq, upd_same], fun b o e => by rw [upd_ne (ne_of_none e hL0)]; exact sq0 b o e⟩ (fun i H1 _ ⟨_, _, _, h, _⟩ => SqL.of h) ?_ ?_
  · rintro i x H1 hi ⟨cs, e1, e2, e3, e4⟩
    rw [hms, List.getElem?_map] at hi
    obtain ⟨c, hc, rfl⟩ := mpd hi
    have hi2 : i < ms.length := (List.getElem?_eq_some_iff.mp hc).1
    refine ⟨rfl, ?_⟩
    refine ⟨_, rfl, _, rfl, _, _, rfl, rfl, .inl ⟨by decide, by decide⟩, _, rfl, _, _, rfl, rfl, .inr ⟨_, rfl, _, _, rfl, rfl, ?_⟩⟩
    refine ⟨cs.map .int, e2, by rw [List.length_map]; exact Nat.lt_of_le_of_lt (show cs.length ≤ 63 by omega) (by decide), cs ++ [2 * (if c < 0 then -c else c) + if decide (c < 0) = true then 1 else 0], by rw [List.length_append, e1]; rfl, by rw [upd_same, List.map_append]; rfl, by rw [upd_ne nLq]; exact e3, fun b o e => ?_⟩
    rw [upd_ne (ne_of_none e hL0)]; exact e4 b o e
  · rintro H1 ⟨cs, e1, e2, e3, e4⟩
    rw [hms, List.length_map] at e1
    -- seal
    refine ⟨_, rfl, a, _, rfl, .inl (e4.seq hS), _, _, rfl, rfl, .inl ⟨by decide, by decide⟩, _, _, rfl, rfl, _, _, rfl, ?_⟩
    -- the loop
    refine ⟨_, rfl, L, rfl, ⟨_, SqL.of e2⟩, for_list (K := K) (a := L) (xs := cs.map V.int) (fun i σ H2 => ∃ (z : Int) (v : Option V), σ = [some (.ref a), some (.ref L), some (.int z), none, v] ∧ H2 L = some (.lst (cs.map .int)) ∧ Same H H2)
      ⟨_, _, rfl, e2, e4⟩ (fun i σ H2 _ ⟨_, _, _, h, _⟩ => SqL.of h) ?_ ?_⟩
    · rintro i x σ H2 hi ⟨z, v, rfl, f1, f2⟩
      rw [List.getElem?_map] at hi
      obtain ⟨c, hc, rfl⟩ := mpd hi
      exact ⟨_, rfl, _, _, rfl, rfl, .inr ⟨by decide, by decide⟩, _, rfl, _, _, rfl, rfl, _, _, rfl, rfl, .inl ⟨_, rfl, _, _, rfl, rfl, (by show (0 : Int) < 4294967291; decide), _, _, rfl, f1, f2⟩⟩
    · rintro σ H2 ⟨z, v, rfl, f1, f2⟩
      -- the dict
      intro pa hpa
      have nLp : L ≠ pa := ne_of_none f1 hpa
      refine ⟨_, rfl, L, rfl, ⟨_, SqL.of (by rw [upd_ne nLp]; exact f1)⟩, fun R hR => ?_⟩
      have nRp : pa ≠ R := fun w => by rw [← w, upd_same] at hR; cases hR
      have hR2 : H2 R = none := by rw [upd_ne nRp.symm] at hR; exact hR
      have nLR : L ≠ R := ne_of_none f1 hR2
      refine lc_list (K := K) (a := L) (xs := cs.map V.int) (fun i H3 => ∃ gs : List Int, gs.length ≤ i ∧ H3 R = some (.lst (gs.map .int)) ∧ H3 L = some (.lst (cs.map .int)) ∧ H3 pa = some (.dK []) ∧ Same H2 H3)
        ⟨[], Nat.zero_le _, upd_same, by rw [upd_ne nLR, upd_ne nLp]; exact f1, by rw [upd_ne nRp, upd_same], fun b o e => by rw [upd_ne (ne_of_none e hR2), upd_ne (ne_of_none e hpa)]; exact e⟩ (fun i H3 _ ⟨_, _, _, h, _⟩ => SqL.of h) ?_ ?_
      · rintro i x H3 hi ⟨gs, g1, g2, g3, g4, g5⟩
        rw [List.getElem?_map] at hi
        obtain ⟨c, hc, rfl⟩ := mpd hi
        have hi2 : i < cs.length := (List.getElem?_eq_some_iff.mp hc).1
        refine ⟨rfl, _, rfl, _, _, rfl, rfl, ⟨by decide, by decide, by decide⟩, _, _, rfl, rfl, _, rfl, ?_⟩
        refine ite2 (fun _ => ?_) (fun _ => ?_)
        · refine ⟨_, rfl, gs.map .int, g2, by rw [List.length_map]; exact Nat.lt_of_le_of_lt (show gs.length ≤ 63 by omega) (by decide), gs ++ [c], by rw [List.length_append]; exact Nat.succ_le_succ g1, by rw [upd_same, List.map_append]; rfl, by rw [upd_ne nLR]; exact g3, by rw [upd_ne nRp]; exact g4, fun b o e => ?_⟩
          rw [upd_ne (ne_of_none e hR2)]; exact g5 b o e
        · exact ⟨gs, by omega, g2, g3, g4, g5⟩
      · rintro H3 ⟨gs, g1, g2, g3, g4, g5⟩
        rw [List.length_map] at g1
        refine ⟨R, _, rfl, SqL.of g2, fun G hG => ?_⟩
        have nGp : pa ≠ G := ne_of_none g4 hG
        refine ⟨_, rfl, ?_⟩
        refine ⟨by rw [upd_ne nGp]; exact g4, [(Sum.inr ("great" : Str), .ref G), (Sum.inr ("seal" : Str), .int z), (Sum.inr ("turn" : Str), .int 0)], rfl, (by show 3 ≤ 15; decide), ?_⟩
        have hH2pa : H2 pa = none := hpa
        have hG2 : H2 G = none := g5.free hG
        refine k pa G _ ⟨gs.reverse, z, 0⟩ (f2.free hpa) (f2.free hG2) (fun b o e => ?_) ⟨nGp, ?_, ?_, ?_⟩
        · have e2 := f2 b o e
          rw [upd_ne (ne_of_none e2 hpa), upd_ne (ne_of_none e2 hG2)]; exact g5 b o e2
        · rw [upd_same]
          unfold mergeK potKV
          simp only [List.foldl_cons, List.foldl_nil, putK, List.any_nil, List.any_cons, dk_great_seal, dk_great_turn, dk_seal_turn, Bool.or_false, Bool.false_eq_true, if_false, List.nil_append, List.cons_append]
        · rw [upd_ne nGp.symm, upd_same, List.map_reverse]
        · show gs.reverse.length ≤ 63
          rw [List.length_reverse]; omega

/-! product_sum -/
abbrev st_product_sum : Stmt := topS 1
theorem sc_product_sum : FnScope ["one", "other", "a", "b"] ["one", "other"] (defScope st_product_sum) := ⟨rfl, rfl, rfl, by decide +kernel, rfl, by decide +kernel, by decide +kernel⟩
def s_product_sum : SS Unit := (sRet (xCall fSum (aCons (xLst (lComp [2, 3] (iBy zipF (aCons (xVar 0) (aCons (xVar 1) aNil))) (tgP 2 3) xYes (xBin fMul (xVar 2) (xVar 3)))) aNil)))
def f_product_sum : List D → Option D := runP 4 s_product_sum
theorem ok_product_sum (T : Txt K mg) : FnOk P w K mg base CX0 1 T.a_product_sum T.d_product_sum ["one", "other"] (spP K 2 f_product_sum) := by
  refine ok_P' (k := 0) (ψ := s_product_sum) T.F_product_sum sc_product_sum rfl rfl rfl ?_
  intro A hr
  have hu := hu65 hr
  exact (fs_one (fs_ret (fc_sum T.z_sum (fa_cons (fe_L (fl_lc [("a", 2), ("b", 3)] (hi := (fi_zip rfl T.z_zip (fa_cons (fe_var 0) (fa_cons (fe_var 1) fa_nil)))) (hg := (fgc_p 2 3)) (ht := fts_nil) (he := (fe_mul (fe_var 2) (fe_var 3))))) fa_nil))))
/-! apart_fault -/
abbrev st_apart_fault : Stmt := topS 2
theorem sc_apart_fault : FnScope ["table", "i", "one", "j"] ["table"] (defScope st_apart_fault) := ⟨rfl, rfl, rfl, by decide +kernel, rfl, by decide +kernel, by decide +kernel⟩
def s_apart_fault : SS Unit := (sSeq (sFor (iBy enumFA (aCons (xVar 0) aNil)) (tgP 1 2) (sFor (iBy rngF2 (aCons (xBin fAdd (xVar 1) (xC (.int 1))) (aCons (xCall fLen (aCons (xVar 0) aNil)) aNil))) (tgN 3) (sIf (xTest (xBin fNe (xCall (lenIs 2 f_product_sum) (aCons (xVar 2) (aCons (xBin fIx (xVar 0) (xVar 3)) aNil))) (xC (.int 0)))) (sRet (xTup (aCons (xVar 1) (aCons (xVar 3) aNil)))) sNil)))
  (sRet (xC .none)))
def f_apart_fault : List D → Option D := runP 4 s_apart_fault
theorem ok_apart_fault (T : Txt K mg) : FnOk P w K mg base CX0 2 T.a_apart_fault T.d_apart_fault ["table"] (spP K 1 f_apart_fault) := by
  refine ok_P' (k := 1) (ψ := s_apart_fault) T.F_apart_fault sc_apart_fault rfl rfl rfl ?_
  intro A hr
  have hu := hu65 hr
  exact (fs_cons (fs_for (fi_enumA (by rfl) T.z_enumerate (fa_cons (fe_var 0) fa_nil)) (fg_p 1 2) (fs_one (fs_for (fi_rng2 rfl T.z_range (fa_cons (fe_add (fe_var 1) fe_int) (fa_cons (fc_len T.z_len (fa_cons (fe_var 0) fa_nil)) fa_nil))) (fg_n 3) (fs_one (fs_if (ft_ne hu (fe_fun (ok_product_sum T) (hr.mono (by decide)) (by rfl) T.m_product_sum T.F_product_sum.kp T.b_product_sum (fa_cons (fe_var 2) (fa_cons (fe_ix (fe_var 0) (fe_var 3)) fa_nil))) fe_int) (fs_one (fs_ret (fe_tup (fa_cons (fe_var 1) (fa_cons (fe_var 3) fa_nil))))) fs_nil)))))
  (fs_one (fs_ret fe_non)))
/-! table_sums -/
abbrev st_table_sums : Stmt := topS 3
theorem sc_table_sums : FnScope ["table", "signs", "row"] ["table", "signs"] (defScope st_table_sums) := ⟨rfl, rfl, rfl, by decide +kernel, rfl, by decide +kernel, by decide +kernel⟩
def s_table_sums : SS Unit := (sRet (xCall fTuple (aCons (xLst (lComp [2] (iOf (xVar 0)) (tgN 2) xYes (xCall (lenIs 2 f_product_sum) (aCons (xVar 2) (aCons (xVar 1) aNil))))) aNil)))
def f_table_sums : List D → Option D := runP 3 s_table_sums
theorem ok_table_sums (T : Txt K mg) : FnOk P w K mg base CX0 2 T.a_table_sums T.d_table_sums ["table", "signs"] (spP K 2 f_table_sums) := by
  refine ok_P' (k := 1) (ψ := s_table_sums) T.F_table_sums sc_table_sums rfl rfl rfl ?_
  intro A hr
  have hu := hu65 hr
  exact (fs_one (fs_ret (fc_tuple T.z_tuple (fa_cons (fe_L (fl_lc [("row", 2)] (hi := (fi_seq (fe_var 0))) (hg := (fgc_n 2)) (ht := fts_nil) (he := (fe_fun (ok_product_sum T) (hr.mono (by decide)) (by rfl) T.m_product_sum T.F_product_sum.kp T.b_product_sum (fa_cons (fe_var 2) (fa_cons (fe_var 1) fa_nil)))))) fa_nil))))
/-! table_worst -/
abbrev st_table_worst : Stmt := topS 4
theorem sc_table_worst : FnScope ["table", "signs", "own"] ["table", "signs"] (defScope st_table_worst) := ⟨rfl, rfl, rfl, by decide +kernel, rfl, by decide +kernel, by decide +kernel⟩
def s_table_worst : SS Unit := (sRet (xCall fMax (aCons (xLst (lComp [2] (iOf (xCall (lenIs 2 f_table_sums) (aCons (xVar 0) (aCons (xVar 1) aNil)))) (tgN 2) xYes (xCall fAbs (aCons (xVar 2) aNil)))) aNil)))
def f_table_worst : List D → Option D := runP 3 s_table_worst
theorem ok_table_worst (T : Txt K mg) : FnOk P w K mg base CX0 3 T.a_table_worst T.d_table_worst ["table", "signs"] (spP K 2 f_table_worst) := by
  refine ok_P' (k := 2) (ψ := s_table_worst) T.F_table_worst sc_table_worst rfl rfl rfl ?_
  intro A hr
  have hu := hu65 hr
  exact (fs_one (fs_ret (fc_max hu T.z_max (fa_cons (fe_L (fl_lc [("own", 2)] (hi := (fi_seq (fe_fun (ok_table_sums T) (hr.mono (by decide)) (by rfl) T.m_table_sums T.F_table_sums.kp T.b_table_sums (fa_cons (fe_var 0) (fa_cons (fe_var 1) fa_nil))))) (hg := (fgc_n 2)) (ht := fts_nil) (he := (fc_abs T.z_abs (fa_cons (fe_var 2) fa_nil))))) fa_nil))))
/-! table_squares -/
abbrev st_table_squares : Stmt := topS 5
theorem sc_table_squares : FnScope ["table", "signs", "own"] ["table", "signs"] (defScope st_table_squares) := ⟨rfl, rfl, rfl, by decide +kernel, rfl, by decide +kernel, by decide +kernel⟩
def s_table_squares : SS Unit := (sRet (xCall fSum (aCons (xLst (lComp [2] (iOf (xCall (lenIs 2 f_table_sums) (aCons (xVar 0) (aCons (xVar 1) aNil)))) (tgN 2) xYes (xBin fMul (xVar 2) (xVar 2)))) aNil)))
def f_table_squares : List D → Option D := runP 3 s_table_squares
theorem ok_table_squares (T : Txt K mg) : FnOk P w K mg base CX0 3 T.a_table_squares T.d_table_squares ["table", "signs"] (spP K 2 f_table_squares) := by
  refine ok_P' (k := 2) (ψ := s_table_squares) T.F_table_squares sc_table_squares rfl rfl rfl ?_
  intro A hr
  have hu := hu65 hr
  exact (fs_one (fs_ret (fc_sum T.z_sum (fa_cons (fe_L (fl_lc [("own", 2)] (hi := (fi_seq (fe_fun (ok_table_sums T) (hr.mono (by decide)) (by rfl) T.m_table_sums T.F_table_sums.kp T.b_table_sums (fa_cons (fe_var 0) (fa_cons (fe_var 1) fa_nil))))) (hg := (fgc_n 2)) (ht := fts_nil) (he := (fe_mul (fe_var 2) (fe_var 2))))) fa_nil))))
/-! normal_table -/
abbrev st_normal_table : Stmt := topS 6
theorem sc_normal_table : FnScope ["table", "heads", "found", "item", "head", "row"] ["table"] (defScope st_normal_table) := ⟨rfl, rfl, rfl, by decide +kernel, rfl, by decide +kernel, by decide +kernel⟩
def s_normal_table : SS Unit := (sSeq (sSet 1 (xBin fIx (xVar 0) (xC (.int 0))))
  (sSeq (sSet 2 (xLst (lComp [5] (iOf (xVar 0)) (tgN 5) xYes (xLst (lComp [3, 4] (iBy zipF (aCons (xVar 5) (aCons (xVar 1) aNil))) (tgP 3 4) xYes (xBin fMul (xVar 3) (xVar 4)))))))
  (sRet (xCall fTuple (aCons (xLst (lComp [5] (iOf (xVar 2)) (tgN 5) xYes (xCall fTuple (aCons (xLst (lComp [3] (iOf (xVar 5)) (tgN 3) xYes (xBin fMul (xVar 3) (xBin fIx (xVar 5) (xC (.int 0)))))) aNil)))) aNil)))))
def f_normal_table : List D → Option D := runP 6 s_normal_table
theorem ok_normal_table (T : Txt K mg) : FnOk P w K mg base CX0 1 T.a_normal_table T.d_normal_table ["table"] (spP K 1 f_normal_table) := by
  refine ok_P' (k := 0) (ψ := s_normal_table) T.F_normal_table sc_normal_table rfl rfl rfl ?_
  intro A hr
  have hu := hu65 hr
  exact (fs_cons (fs_set 1 (fe_ix (fe_var 0) fe_int))
  (fs_cons (fs_setLc 2 [("row", 5)] (hi := (fi_seq (fe_var 0))) (hg := (fgc_n 5)) (ht := fts_nil) (he := (fe_L (fl_lc [("item", 3), ("head", 4)] (hi := (fi_zip rfl T.z_zip (fa_cons (fe_var 5) (fa_cons (fe_var 1) fa_nil)))) (hg := (fgc_p 3 4)) (ht := fts_nil) (he := (fe_mul (fe_var 3) (fe_var 4)))))))
  (fs_one (fs_ret (fc_tuple T.z_tuple (fa_cons (fe_L (fl_lc [("row", 5)] (hi := (fi_seq (fe_var 2))) (hg := (fgc_n 5)) (ht := fts_nil) (he := (fc_tuple T.z_tuple (fa_cons (fe_L (fl_lc [("item", 3)] (hi := (fi_seq (fe_var 5))) (hg := (fgc_n 3)) (ht := fts_nil) (he := (fe_mul (fe_var 3) (fe_ix (fe_var 5) fe_int))))) fa_nil))))) fa_nil))))))
/-! lots_of_signs -/
abbrev st_lots_of_signs : Stmt := topS 7
theorem sc_lots_of_signs : FnScope ["table", "j", "item", "row"] ["table"] (defScope st_lots_of_signs) := ⟨rfl, rfl, rfl, by decide +kernel, rfl, by decide +kernel, by decide +kernel⟩
def s_lots_of_signs : SS Unit := (sRet (xCall fTuple (aCons (xLst (lComp [3] (iOf (xVar 0)) (tgN 3) xYes (xCall fTuple (aCons (xLst (lComp [1, 2] (iBy enumFA (aCons (xVar 3) aNil)) (tgP 1 2) (xTest (xBin fEq (xVar 2) (xC (.int 1)))) (xVar 1))) aNil)))) aNil)))
def f_lots_of_signs : List D → Option D := runP 4 s_lots_of_signs
theorem ok_lots_of_signs (T : Txt K mg) : FnOk P w K mg base CX0 1 T.a_lots_of_signs T.d_lots_of_signs ["table"] (spP K 1 f_lots_of_signs) := by
  refine ok_P' (k := 0) (ψ := s_lots_of_signs) T.F_lots_of_signs sc_lots_of_signs rfl rfl rfl ?_
  intro A hr
  have hu := hu65 hr
  exact (fs_one (fs_ret (fc_tuple T.z_tuple (fa_cons (fe_L (fl_lc [("row", 3)] (hi := (fi_seq (fe_var 0))) (hg := (fgc_n 3)) (ht := fts_nil) (he := (fc_tuple T.z_tuple (fa_cons (fe_L (fl_lc [("j", 1), ("item", 2)] (hi := (fi_enumA (by rfl) T.z_enumerate (fa_cons (fe_var 3) fa_nil))) (hg := (fgc_p 1 2)) (ht := (fts_one (ft_eq hu (fe_var 2) fe_int))) (he := (fe_var 1)))) fa_nil))))) fa_nil))))
/-! _law_mixed -/
abbrev st__law_mixed : Stmt := topS 11
theorem sc__law_mixed : FnScope ["pot", "items", "left", "found"] ["pot", "items"] (defScope st__law_mixed) := ⟨rfl, rfl, rfl, by decide +kernel, rfl, by decide +kernel, by decide +kernel⟩
def s__law_mixed : SS PotS := (sSeq (sParLL 2 3 (lCall fList (aCons (xVar 1) aNil)) (lDisp aNil))
  (sSeq (sWhile (xBorT 2 (xTest (xBin fNe (xVar 2) (xLst (lDisp aNil))))) (sAppP 3 (xPopAt 2 (xFunZ 2 0 f__law_draw (aCons (xBor 2 (xCall fLen (aCons (xVar 2) aNil))) aNil)))) 100000)
  (sFz 3 (sRet (xVar 3)))))
def f__law_mixed : List D → PotS → Option (D × PotS) := runZ 4 s__law_mixed
theorem ok__law_mixed (T : Txt K mg) : FnOk P w K mg base CX0 2 T.a__law_mixed T.d__law_mixed ["pot", "items"] (spZ K ZB 2 f__law_mixed) := by
  refine ok_Z' (k := 1) (ψ := s__law_mixed) T.F__law_mixed sc__law_mixed rfl rfl rfl ?_
  intro A hr
  have hu := hu65 hr
  exact (fs_cons (fs_parLL 2 3 (fl_list T.z_list (fa_cons (fe_var 1) fa_nil)) (fl_disp fa_nil))
  (fs_cons (fs_while 100000 (ft_borrow 2 (ft_ne hu (fe_var 2) (fe_L (fl_disp fa_nil)))) (fs_one (fs_appP 3 (fp_popAt 2 (fa_cons (fe_funZ 0 (ok__law_draw T) (hr.mono (by decide)) (by rfl) T.m__law_draw T.F__law_draw.kp T.b__law_draw (fa_cons (fe_borrow 2 (fc_len T.z_len (fa_cons (fe_var 2) fa_nil))) fa_nil)) fa_nil)))))
  (fs_one (fs_fz 3 (fs_ret (fe_var 3))))))
/-! _law_signs -/
abbrev st__law_signs : Stmt := topS 12
theorem sc__law_signs : FnScope ["pot", "n", "x"] ["pot", "n"] (defScope st__law_signs) := ⟨rfl, rfl, rfl, by decide +kernel, rfl, by decide +kernel, by decide +kernel⟩
def s__law_signs : SS PotS := (sRet (xCall fTuple (aCons (xLst (lComp [2] (iBy rngF1 (aCons (xVar 1) aNil)) (tgN 2) xYes (xBin fSub (xBin fMul (xC (.int 2)) (xFunZ 2 0 f__law_draw (aCons (xC (.int 2)) aNil))) (xC (.int 1))))) aNil)))
def f__law_signs : List D → PotS → Option (D × PotS) := runZ 3 s__law_signs
theorem ok__law_signs (T : Txt K mg) : FnOk P w K mg base CX0 2 T.a__law_signs T.d__law_signs ["pot", "n"] (spZ K ZB 2 f__law_signs) := by
  refine ok_Z' (k := 1) (ψ := s__law_signs) T.F__law_signs sc__law_signs rfl rfl rfl ?_
  intro A hr
  have hu := hu65 hr
  exact (fs_one (fs_ret (fc_tuple T.z_tuple (fa_cons (fe_L (fl_lc [("x", 2)] (hi := (fi_rng1 rfl T.z_range (fa_cons (fe_var 1) fa_nil))) (hg := (fgc_n 2)) (ht := fts_nil) (he := (fe_sub (fe_mul fe_int (fe_funZ 0 (ok__law_draw T) (hr.mono (by decide)) (by rfl) T.m__law_draw T.F__law_draw.kp T.b__law_draw (fa_cons fe_int fa_nil))) fe_int)))) fa_nil))))
/-! _law_table -/
abbrev st__law_table : Stmt := topS 13
theorem sc__law_table : FnScope ["pot", "n", "i", "table", "row", "own", "flips", "a", "b", "j"] ["pot", "n"] (defScope st__law_table) := ⟨rfl, rfl, rfl, by decide +kernel, rfl, by decide +kernel, by decide +kernel⟩
def s__law_table : SS PotS := (sSeq (sIf (xTest (xBin fEq (xFunZ 2 0 f__law_draw (aCons (xC (.int 2)) aNil)) (xC (.int 0)))) (sRet (xCall fTuple (aCons (xLst (lComp [2] (iBy rngF1 (aCons (xVar 1) aNil)) (tgN 2) xYes (xFunZ 2 0 f__law_signs (aCons (xVar 1) aNil)))) aNil))) sNil)
  (sSeq (sSet 3 (xTup (aCons (xTup (aCons (xC (.int 1)) aNil)) aNil)))
  (sSeq (sWhile (xTest (xBin fLe (xBin fMul (xC (.int 2)) (xCall fLen (aCons (xVar 3) aNil))) (xVar 1))) (sSet 3 (xBin fAdd (xCall fTuple (aCons (xLst (lComp [4] (iOf (xVar 3)) (tgN 4) xYes (xBin fAdd (xVar 4) (xVar 4)))) aNil)) (xCall fTuple (aCons (xLst (lComp [4] (iOf (xVar 3)) (tgN 4) xYes (xBin fAdd (xVar 4) (xCall fTuple (aCons (xLst (lComp [5] (iOf (xVar 4)) (tgN 5) xYes (xUn fNeg (xVar 5)))) aNil))))) aNil)))) 100000)
  (sSeq (sSet 3 (xCall fTuple (aCons (xFunZ 2 0 f__law_mixed (aCons (xVar 3) aNil)) aNil)))
  (sSeq (sSet 6 (xFunZ 2 0 f__law_signs (aCons (xCall fLen (aCons (xVar 3) aNil)) aNil)))
  (sSeq (sSet 3 (xCall fTuple (aCons (xLst (lComp [4] (iOf (xVar 3)) (tgN 4) xYes (xCall fTuple (aCons (xLst (lComp [7, 8] (iBy zipF (aCons (xVar 4) (aCons (xVar 6) aNil))) (tgP 7 8) xYes (xBin fMul (xVar 7) (xVar 8)))) aNil)))) aNil)))
  (sSeq (sIf (xTest (xBin fEq (xFunZ 2 0 f__law_draw (aCons (xC (.int 3)) aNil)) (xC (.int 0)))) (sSeq (sPar 2 9 (xFunZ 2 0 f__law_draw (aCons (xCall fLen (aCons (xVar 3) aNil)) aNil)) (xFunZ 2 0 f__law_draw (aCons (xCall fLen (aCons (xVar 3) aNil)) aNil)))
  (sSeq (sSet 4 (xBin fAdd (xBin fAdd (xSlice (xBin fIx (xVar 3) (xVar 2)) oNone (oSome (xVar 9))) (xTup (aCons (xUn fNeg (xBin fIx (xBin fIx (xVar 3) (xVar 2)) (xVar 9))) aNil))) (xSlice (xBin fIx (xVar 3) (xVar 2)) (oSome (xBin fAdd (xVar 9) (xC (.int 1)))) oNone)))
  (sSet 3 (xBin fAdd (xBin fAdd (xSlice (xVar 3) oNone (oSome (xVar 2))) (xTup (aCons (xVar 4) aNil))) (xSlice (xVar 3) (oSome (xBin fAdd (xVar 2) (xC (.int 1)))) oNone))))) sNil)
  (sRet (xVar 3)))))))))
def f__law_table : List D → PotS → Option (D × PotS) := runZ 10 s__law_table
theorem ok__law_table (T : Txt K mg) : FnOk P w K mg base CX0 3 T.a__law_table T.d__law_table ["pot", "n"] (spZ K ZB 2 f__law_table) := by
  refine ok_Z' (k := 2) (ψ := s__law_table) T.F__law_table sc__law_table rfl rfl rfl ?_
  intro A hr
  have hu := hu65 hr
  exact (fs_cons (fs_if (ft_eq hu (fe_funZ 0 (ok__law_draw T) (hr.mono (by decide)) (by rfl) T.m__law_draw T.F__law_draw.kp T.b__law_draw (fa_cons fe_int fa_nil)) fe_int) (fs_one (fs_ret (fc_tuple T.z_tuple (fa_cons (fe_L (fl_lc [("i", 2)] (hi := (fi_rng1 rfl T.z_range (fa_cons (fe_var 1) fa_nil))) (hg := (fgc_n 2)) (ht := fts_nil) (he := (fe_funZ 0 (ok__law_signs T) (hr.mono (by decide)) (by rfl) T.m__law_signs T.F__law_signs.kp T.b__law_signs (fa_cons (fe_var 1) fa_nil))))) fa_nil)))) fs_nil)
  (fs_cons (fs_set 3 (fe_tup (fa_cons (fe_tup (fa_cons fe_int fa_nil)) fa_nil)))
  (fs_cons (fs_while 100000 (ft_le hu (fe_mul fe_int (fc_len T.z_len (fa_cons (fe_var 3) fa_nil))) (fe_var 1)) (fs_one (fs_set 3 (fe_add (fc_tuple T.z_tuple (fa_cons (fe_L (fl_lc [("row", 4)] (hi := (fi_seq (fe_var 3))) (hg := (fgc_n 4)) (ht := fts_nil) (he := (fe_add (fe_var 4) (fe_var 4))))) fa_nil)) (fc_tuple T.z_tuple (fa_cons (fe_L (fl_lc [("row", 4)] (hi := (fi_seq (fe_var 3))) (hg := (fgc_n 4)) (ht := fts_nil) (he := (fe_add (fe_var 4) (fc_tuple T.z_tuple (fa_cons (fe_L (fl_lc [("own", 5)] (hi := (fi_seq (fe_var 4))) (hg := (fgc_n 5)) (ht := fts_nil) (he := (fe_neg (fe_var 5))))) fa_nil)))))) fa_nil))))))
  (fs_cons (fs_set 3 (fc_tuple T.z_tuple (fa_cons (fe_funZ 0 (ok__law_mixed T) (hr.mono (by decide)) (by rfl) T.m__law_mixed T.F__law_mixed.kp T.b__law_mixed (fa_cons (fe_var 3) fa_nil)) fa_nil)))
  (fs_cons (fs_set 6 (fe_funZ 0 (ok__law_signs T) (hr.mono (by decide)) (by rfl) T.m__law_signs T.F__law_signs.kp T.b__law_signs (fa_cons (fc_len T.z_len (fa_cons (fe_var 3) fa_nil)) fa_nil)))
  (fs_cons (fs_set 3 (fc_tuple T.z_tuple (fa_cons (fe_L (fl_lc [("row", 4)] (hi := (fi_seq (fe_var 3))) (hg := (fgc_n 4)) (ht := fts_nil) (he := (fc_tuple T.z_tuple (fa_cons (fe_L (fl_lc [("a", 7), ("b", 8)] (hi := (fi_zip rfl T.z_zip (fa_cons (fe_var 4) (fa_cons (fe_var 6) fa_nil)))) (hg := (fgc_p 7 8)) (ht := fts_nil) (he := (fe_mul (fe_var 7) (fe_var 8))))) fa_nil))))) fa_nil)))
  (fs_cons (fs_if (ft_eq hu (fe_funZ 0 (ok__law_draw T) (hr.mono (by decide)) (by rfl) T.m__law_draw T.F__law_draw.kp T.b__law_draw (fa_cons fe_int fa_nil)) fe_int) (fs_cons (fs_par 2 9 (fa_cons (fe_funZ 0 (ok__law_draw T) (hr.mono (by decide)) (by rfl) T.m__law_draw T.F__law_draw.kp T.b__law_draw (fa_cons (fc_len T.z_len (fa_cons (fe_var 3) fa_nil)) fa_nil)) (fa_cons (fe_funZ 0 (ok__law_draw T) (hr.mono (by decide)) (by rfl) T.m__law_draw T.F__law_draw.kp T.b__law_draw (fa_cons (fc_len T.z_len (fa_cons (fe_var 3) fa_nil)) fa_nil)) fa_nil)))
  (fs_cons (fs_set 4 (fe_add (fe_add (fe_slice (fe_ix (fe_var 3) (fe_var 2)) fo_none (fo_some (fe_var 9))) (fe_tup (fa_cons (fe_neg (fe_ix (fe_ix (fe_var 3) (fe_var 2)) (fe_var 9))) fa_nil))) (fe_slice (fe_ix (fe_var 3) (fe_var 2)) (fo_some (fe_add (fe_var 9) fe_int)) fo_none)))
  (fs_one (fs_set 3 (fe_add (fe_add (fe_slice (fe_var 3) fo_none (fo_some (fe_var 2))) (fe_tup (fa_cons (fe_var 4) fa_nil))) (fe_slice (fe_var 3) (fo_some (fe_add (fe_var 2) fe_int)) fo_none)))))) fs_nil)
  (fs_one (fs_ret (fe_var 3))))))))))
/-! _law_apart -/
abbrev st__law_apart : Stmt := topS 14
theorem sc__law_apart : FnScope ["table", "i", "j", "a", "b"] ["table"] (defScope st__law_apart) := ⟨rfl, rfl, rfl, by decide +kernel, rfl, by decide +kernel, by decide +kernel⟩
def s__law_apart : SS Unit := (sSeq (sFor (iBy rngF1 (aCons (xCall fLen (aCons (xVar 0) aNil)) aNil)) (tgN 1) (sFor (iBy rngF2 (aCons (xBin fAdd (xVar 1) (xC (.int 1))) (aCons (xCall fLen (aCons (xVar 0) aNil)) aNil))) (tgN 2) (sIf (xTest (xBin fNe (xCall fSum (aCons (xLst (lComp [3, 4] (iBy zipF (aCons (xBin fIx (xVar 0) (xVar 1)) (aCons (xBin fIx (xVar 0) (xVar 2)) aNil))) (tgP 3 4) xYes (xBin fMul (xVar 3) (xVar 4)))) aNil)) (xC (.int 0)))) (sRet (xTup (aCons (xVar 1) (aCons (xVar 2) aNil)))) sNil)))
  (sRet (xC .none)))
def f__law_apart : List D → Option D := runP 5 s__law_apart
theorem ok__law_apart (T : Txt K mg) : FnOk P w K mg base CX0 1 T.a__law_apart T.d__law_apart ["table"] (spP K 1 f__law_apart) := by
  refine ok_P' (k := 0) (ψ := s__law_apart) T.F__law_apart sc__law_apart rfl rfl rfl ?_
  intro A hr
  have hu := hu65 hr
  exact (fs_cons (fs_for (fi_rng1 rfl T.z_range (fa_cons (fc_len T.z_len (fa_cons (fe_var 0) fa_nil)) fa_nil)) (fg_n 1) (fs_one (fs_for (fi_rng2 rfl T.z_range (fa_cons (fe_add (fe_var 1) fe_int) (fa_cons (fc_len T.z_len (fa_cons (fe_var 0) fa_nil)) fa_nil))) (fg_n 2) (fs_one (fs_if (ft_ne hu (fc_sum T.z_sum (fa_cons (fe_L (fl_lc [("a", 3), ("b", 4)] (hi := (fi_zip rfl T.z_zip (fa_cons (fe_ix (fe_var 0) (fe_var 1)) (fa_cons (fe_ix (fe_var 0) (fe_var 2)) fa_nil)))) (hg := (fgc_p 3 4)) (ht := fts_nil) (he := (fe_mul (fe_var 3) (fe_var 4))))) fa_nil)) fe_int) (fs_one (fs_ret (fe_tup (fa_cons (fe_var 1) (fa_cons (fe_var 2) fa_nil))))) fs_nil)))))
  (fs_one (fs_ret fe_non)))
/-! _law_rows -/
abbrev st__law_rows : Stmt := topS 15
theorem sc__law_rows : FnScope ["table", "signs", "a", "b", "row"] ["table", "signs"] (defScope st__law_rows) := ⟨rfl, rfl, rfl, by decide +kernel, rfl, by decide +kernel, by decide +kernel⟩
def s__law_rows : SS Unit := (sRet (xLst (lComp [4] (iOf (xVar 0)) (tgN 4) xYes (xCall fSum (aCons (xLst (lComp [2, 3] (iBy zipF (aCons (xVar 4) (aCons (xVar 1) aNil))) (tgP 2 3) xYes (xBin fMul (xVar 2) (xVar 3)))) aNil)))))
def f__law_rows : List D → Option D := runP 5 s__law_rows
theorem ok__law_rows (T : Txt K mg) : FnOk P w K mg base CX0 1 T.a__law_rows T.d__law_rows ["table", "signs"] (spP K 2 f__law_rows) := by
  refine ok_P' (k := 0) (ψ := s__law_rows) T.F__law_rows sc__law_rows rfl rfl rfl ?_
  intro A hr
  have hu := hu65 hr
  exact (fs_one (fs_ret (fe_L (fl_lc [("row", 4)] (hi := (fi_seq (fe_var 0))) (hg := (fgc_n 4)) (ht := fts_nil) (he := (fc_sum T.z_sum (fa_cons (fe_L (fl_lc [("a", 2), ("b", 3)] (hi := (fi_zip rfl T.z_zip (fa_cons (fe_var 4) (fa_cons (fe_var 1) fa_nil)))) (hg := (fgc_p 2 3)) (ht := fts_nil) (he := (fe_mul (fe_var 2) (fe_var 3))))) fa_nil)))))))
/-! law -/
abbrev st_law : Stmt := topS 16
theorem sc_law : FnScope ["script", "pot", "turn", "table", "n", "signs", "kept", "is_apart", "squares", "own", "rows", "row", "a", "b", "due", "lots", "j", "turned", "worst"] ["script"] (defScope st_law) := ⟨rfl, rfl, rfl, by decide +kernel, rfl, by decide +kernel, by decide +kernel⟩
def s_law : SS PotS := (sSeq (sFor (iBy rngF1 (aCons (xC (.int 3)) aNil)) (tgN 2) (sSeq (sSet 3 (xFunZ 2 1 f__law_table (aCons (xIf (xAnd (xTest (xBin fEq (xVar 2) (xC (.int 0)))) (xTest (xBin fEq (xFunZ 2 1 f__law_draw (aCons (xC (.int 9)) aNil)) (xC (.int 0))))) (xC (.int 16)) (xBin fAdd (xC (.int 1)) (xFunZ 2 1 f__law_draw (aCons (xC (.int 8)) aNil)))) aNil)))
  (sSeq (sPar 4 5 (xCall fLen (aCons (xVar 3) aNil)) (xFunZ 2 1 f__law_signs (aCons (xCall fLen (aCons (xVar 3) aNil)) aNil)))
  (sSeq (sPar 6 7 (xCall fRepr (aCons (xLst (lDisp (aCons (xVar 3) (aCons (xVar 5) aNil)))) aNil)) (xBin fIs (xCall (lenIs 1 f__law_apart) (aCons (xVar 3) aNil)) (xC .none)))
  (sSeq (sSet 8 (xCall fSum (aCons (xLst (lComp [9] (iOf (xCall (lenIs 2 f__law_rows) (aCons (xVar 3) (aCons (xVar 5) aNil)))) (tgN 9) xYes (xBin fMul (xVar 9) (xVar 9)))) aNil)))
  (sSeq (sIf (xTest (xBin fNe (xCall fRepr (aCons (xLst (lDisp (aCons (xCall (lenIs 2 f_table_squares) (aCons (xVar 3) (aCons (xVar 5) aNil))) (aCons (xCall (kwF 2 [1, 0] 2 f_table_squares) (aCons (xVar 5) (aCons (xVar 3) aNil))) aNil)))) aNil)) (xCall fRepr (aCons (xLst (lDisp (aCons (xVar 8) (aCons (xVar 8) aNil)))) aNil)))) (sRet (xC (.bool false))) sNil)
  (sSeq (sSetL 10 (lDisp aNil))
  (sSeq (sFor (iOf (xVar 3)) (tgN 11) (sSeq (sSet 9 (xLst (lComp [12, 13] (iBy zipF (aCons (xVar 11) (aCons (xBin fIx (xVar 3) (xC (.int 0))) aNil))) (tgP 12 13) xYes (xBin fMul (xVar 12) (xVar 13)))))
  (sApp 10 (xCall fTuple (aCons (xLst (lComp [12] (iOf (xVar 9)) (tgN 12) xYes (xBin fMul (xVar 12) (xBin fIx (xVar 9) (xC (.int 0)))))) aNil)))))
  (sSeq (sFz 10 (sSet 14 (xCall fTuple (aCons (xVar 10) aNil))))
  (sSeq (sIf (xTest (xBin fNe (xCall fRepr (aCons (xLst (lDisp (aCons (xCall (lenIs 1 f_normal_table) (aCons (xVar 3) aNil)) (aCons (xCall (kwF 1 [0] 1 f_normal_table) (aCons (xVar 3) aNil)) aNil)))) aNil)) (xCall fRepr (aCons (xLst (lDisp (aCons (xVar 14) (aCons (xVar 14) aNil)))) aNil)))) (sRet (xC (.bool false))) sNil)
  (sSeq (sSet 15 (xCall fTuple (aCons (xLst (lComp [11] (iOf (xVar 3)) (tgN 11) xYes (xCall fTuple (aCons (xLst (lComp [16, 9] (iBy enumFA (aCons (xVar 11) aNil)) (tgP 16 9) (xTest (xBin fEq (xVar 9) (xC (.int 1)))) (xVar 16))) aNil)))) aNil)))
  (sSeq (sIf (xTest (xBin fNe (xCall fRepr (aCons (xLst (lDisp (aCons (xCall (lenIs 1 f_lots_of_signs) (aCons (xVar 3) aNil)) (aCons (xCall (kwF 1 [0] 1 f_lots_of_signs) (aCons (xVar 3) aNil)) aNil)))) aNil)) (xCall fRepr (aCons (xLst (lDisp (aCons (xVar 15) (aCons (xVar 15) aNil)))) aNil)))) (sRet (xC (.bool false))) sNil)
  (sSeq (sSet 17 (xCall fTuple (aCons (xLst (lComp [16] (iBy rngF1 (aCons (xVar 4) aNil)) (tgN 16) xYes (xCall fTuple (aCons (xLst (lComp [11] (iOf (xVar 3)) (tgN 11) xYes (xBin fIx (xVar 11) (xVar 16)))) aNil)))) aNil)))
  (sSeq (sIf (xTest (xVar 7)) (sSeq (sSet 18 (xCall (lenIs 2 f_table_worst) (aCons (xVar 3) (aCons (xVar 5) aNil))))
  (sSeq (sIf (xOr (xTest (xBin fNe (xVar 8) (xBin fMul (xVar 4) (xVar 4)))) (xOr (xTest (xBin fLt (xBin fMul (xVar 18) (xVar 18)) (xVar 4))) (xAnd (xTest (xBin fGt (xVar 4) (xC (.int 2)))) (xTest (xBin fNe (xBin fAnd (xVar 4) (xC (.int 3))) (xC (.int 0))))))) (sRet (xC (.bool false))) sNil)
  (sSeq (sIf (xOr (xTest (xBin fIsn (xCall (lenIs 1 f_apart_fault) (aCons (xVar 17) aNil)) (xC .none))) (xTest (xBin fIsn (xCall (lenIs 1 f_apart_fault) (aCons (xVar 14) aNil)) (xC .none)))) (sRet (xC (.bool false))) sNil)
  (sIf (xTest (xCall fAny (aCons (xLst (lComp [11] (iOf (xSlice (xVar 14) (oSome (xC (.int 1))) oNone)) (tgN 11) xYes (xBin fNe (xCall fSum (aCons (xVar 11) aNil)) (xC (.int 0))))) aNil))) (sRet (xC (.bool false))) sNil)))) sNil)
  (sIf (xTest (xBin fNe (xCall fRepr (aCons (xLst (lDisp (aCons (xVar 3) (aCons (xVar 5) aNil)))) aNil)) (xVar 6))) (sRet (xC (.bool false))) sNil)))))))))))))))
  (sRet (xC (.bool true))))
theorem ok_law (T : Txt K mg) {A : Around} (hr : Room 3 A) (hG : A.guards = some []) : FSs ⟨P, w, K, mg, base, A⟩ ["script", "pot", "turn", "table", "n", "signs", "kept", "is_apart", "squares", "own", "rows", "row", "a", "b", "due", "lots", "j", "turned", "worst"] (defScope st_law) ZB ((defBody st_law).drop 1) s_law := by
  have hu := hu65 hr
  exact (fs_cons (fs_for (fi_rng1 rfl T.z_range (fa_cons fe_int fa_nil)) (fg_n 2) (fs_cons (fs_set 3 (fe_funZ 1 (ok__law_table T) (hr.mono (by decide)) (by rfl) T.m__law_table T.F__law_table.kp T.b__law_table (fa_cons (fe_if (FW.t (fw_and (ft_eq hu (fe_var 2) fe_int) (fw_and1 (ft_eq hu (fe_funZ 1 (ok__law_draw T) (hr.mono (by decide)) (by rfl) T.m__law_draw T.F__law_draw.kp T.b__law_draw (fa_cons fe_int fa_nil)) fe_int)))) fe_int (fe_add fe_int (fe_funZ 1 (ok__law_draw T) (hr.mono (by decide)) (by rfl) T.m__law_draw T.F__law_draw.kp T.b__law_draw (fa_cons fe_int fa_nil)))) fa_nil)))
  (fs_cons (fs_par 4 5 (fa_cons (fc_len T.z_len (fa_cons (fe_var 3) fa_nil)) (fa_cons (fe_funZ 1 (ok__law_signs T) (hr.mono (by decide)) (by rfl) T.m__law_signs T.F__law_signs.kp T.b__law_signs (fa_cons (fc_len T.z_len (fa_cons (fe_var 3) fa_nil)) fa_nil)) fa_nil)))
  (fs_cons (fs_par 6 7 (fa_cons (fc_repr hG hu T.z_repr (fa_cons (fe_L (fl_disp (fa_cons (fe_var 3) (fa_cons (fe_var 5) fa_nil)))) fa_nil)) (fa_cons (fe_is (fe_fun (ok__law_apart T) (hr.mono (by decide)) (by rfl) T.m__law_apart T.F__law_apart.kp T.b__law_apart (fa_cons (fe_var 3) fa_nil)) fe_non) fa_nil)))
  (fs_cons (fs_set 8 (fc_sum T.z_sum (fa_cons (fe_L (fl_lc [("own", 9)] (hi := (fi_seq (fe_fun (ok__law_rows T) (hr.mono (by decide)) (by rfl) T.m__law_rows T.F__law_rows.kp T.b__law_rows (fa_cons (fe_var 3) (fa_cons (fe_var 5) fa_nil))))) (hg := (fgc_n 9)) (ht := fts_nil) (he := (fe_mul (fe_var 9) (fe_var 9))))) fa_nil)))
  (fs_cons (fs_if (ft_ne hu (fc_repr hG hu T.z_repr (fa_cons (fe_L (fl_disp (fa_cons (fe_fun (ok_table_squares T) (hr.mono (by decide)) (by rfl) T.m_table_squares T.F_table_squares.kp T.b_table_squares (fa_cons (fe_var 3) (fa_cons (fe_var 5) fa_nil))) (fa_cons (fe_funK (ok_table_squares T) (hr.mono (by decide)) (by rfl) T.m_table_squares T.F_table_squares.kp T.k0_table_squares (fk_cons (fe_var 5) (fk_cons (fe_var 3) fk_nil))) fa_nil)))) fa_nil)) (fc_repr hG hu T.z_repr (fa_cons (fe_L (fl_disp (fa_cons (fe_var 8) (fa_cons (fe_var 8) fa_nil)))) fa_nil))) (fs_one (fs_ret fe_bl)) fs_nil)
  (fs_cons (fs_setL 10 (fl_disp fa_nil))
  (fs_cons (fs_for (fi_seq (fe_var 3)) (fg_n 11) (fs_cons (fs_set 9 (fe_L (fl_lc [("a", 12), ("b", 13)] (hi := (fi_zip rfl T.z_zip (fa_cons (fe_var 11) (fa_cons (fe_ix (fe_var 3) fe_int) fa_nil)))) (hg := (fgc_p 12 13)) (ht := fts_nil) (he := (fe_mul (fe_var 12) (fe_var 13))))))
  (fs_one (fs_app 10 (fa_cons (fc_tuple T.z_tuple (fa_cons (fe_L (fl_lc [("a", 12)] (hi := (fi_seq (fe_var 9))) (hg := (fgc_n 12)) (ht := fts_nil) (he := (fe_mul (fe_var 12) (fe_ix (fe_var 9) fe_int))))) fa_nil)) fa_nil)))))
  (fs_cons (fs_fz 10 (fs_set 14 (fc_tuple T.z_tuple (fa_cons (fe_var 10) fa_nil))))
  (fs_cons (fs_if (ft_ne hu (fc_repr hG hu T.z_repr (fa_cons (fe_L (fl_disp (fa_cons (fe_fun (ok_normal_table T) (hr.mono (by decide)) (by rfl) T.m_normal_table T.F_normal_table.kp T.b_normal_table (fa_cons (fe_var 3) fa_nil)) (fa_cons (fe_funK (ok_normal_table T) (hr.mono (by decide)) (by rfl) T.m_normal_table T.F_normal_table.kp T.k0_normal_table (fk_cons (fe_var 3) fk_nil)) fa_nil)))) fa_nil)) (fc_repr hG hu T.z_repr (fa_cons (fe_L (fl_disp (fa_cons (fe_var 14) (fa_cons (fe_var 14) fa_nil)))) fa_nil))) (fs_one (fs_ret fe_bl)) fs_nil)
  (fs_cons (fs_set 15 (fc_tuple T.z_tuple (fa_cons (fe_L (fl_lc [("row", 11)] (hi := (fi_seq (fe_var 3))) (hg := (fgc_n 11)) (ht := fts_nil) (he := (fc_tuple T.z_tuple (fa_cons (fe_L (fl_lc [("j", 16), ("own", 9)] (hi := (fi_enumA (by rfl) T.z_enumerate (fa_cons (fe_var 11) fa_nil))) (hg := (fgc_p 16 9)) (ht := (fts_one (ft_eq hu (fe_var 9) fe_int))) (he := (fe_var 16)))) fa_nil))))) fa_nil)))
  (fs_cons (fs_if (ft_ne hu (fc_repr hG hu T.z_repr (fa_cons (fe_L (fl_disp (fa_cons (fe_fun (ok_lots_of_signs T) (hr.mono (by decide)) (by rfl) T.m_lots_of_signs T.F_lots_of_signs.kp T.b_lots_of_signs (fa_cons (fe_var 3) fa_nil)) (fa_cons (fe_funK (ok_lots_of_signs T) (hr.mono (by decide)) (by rfl) T.m_lots_of_signs T.F_lots_of_signs.kp T.k0_lots_of_signs (fk_cons (fe_var 3) fk_nil)) fa_nil)))) fa_nil)) (fc_repr hG hu T.z_repr (fa_cons (fe_L (fl_disp (fa_cons (fe_var 15) (fa_cons (fe_var 15) fa_nil)))) fa_nil))) (fs_one (fs_ret fe_bl)) fs_nil)
  (fs_cons (fs_set 17 (fc_tuple T.z_tuple (fa_cons (fe_L (fl_lc [("j", 16)] (hi := (fi_rng1 rfl T.z_range (fa_cons (fe_var 4) fa_nil))) (hg := (fgc_n 16)) (ht := fts_nil) (he := (fc_tuple T.z_tuple (fa_cons (fe_L (fl_lc [("row", 11)] (hi := (fi_seq (fe_var 3))) (hg := (fgc_n 11)) (ht := fts_nil) (he := (fe_ix (fe_var 11) (fe_var 16))))) fa_nil))))) fa_nil)))
  (fs_cons (fs_if (ft_val (fe_var 7)) (fs_cons (fs_set 18 (fe_fun (ok_table_worst T) (hr.mono (by decide)) (by rfl) T.m_table_worst T.F_table_worst.kp T.b_table_worst (fa_cons (fe_var 3) (fa_cons (fe_var 5) fa_nil))))
  (fs_cons (fs_if (FW.t (fw_or (ft_ne hu (fe_var 8) (fe_mul (fe_var 4) (fe_var 4))) (fw_or (ft_lt hu (fe_mul (fe_var 18) (fe_var 18)) (fe_var 4)) (fw_or1 (FW.t (fw_and (ft_gt hu (fe_var 4) fe_int) (fw_and1 (ft_ne hu (fe_band (fe_var 4) fe_int) fe_int)))))))) (fs_one (fs_ret fe_bl)) fs_nil)
  (fs_cons (fs_if (FW.t (fw_or (ft_isn (fe_fun (ok_apart_fault T) (hr.mono (by decide)) (by rfl) T.m_apart_fault T.F_apart_fault.kp T.b_apart_fault (fa_cons (fe_var 17) fa_nil)) fe_non) (fw_or1 (ft_isn (fe_fun (ok_apart_fault T) (hr.mono (by decide)) (by rfl) T.m_apart_fault T.F_apart_fault.kp T.b_apart_fault (fa_cons (fe_var 14) fa_nil)) fe_non)))) (fs_one (fs_ret fe_bl)) fs_nil)
  (fs_one (fs_if (ft_val (fc_any T.z_any (fa_cons (fe_L (fl_lc [("row", 11)] (hi := (fi_seq (fe_slice (fe_var 14) (fo_some fe_int) fo_none))) (hg := (fgc_n 11)) (ht := fts_nil) (he := (fe_ne hu (fc_sum T.z_sum (fa_cons (fe_var 11) fa_nil)) fe_int)))) fa_nil))) (fs_one (fs_ret fe_bl)) fs_nil))))) fs_nil)
  (fs_one (fs_if (ft_ne hu (fc_repr hG hu T.z_repr (fa_cons (fe_L (fl_disp (fa_cons (fe_var 3) (fa_cons (fe_var 5) fa_nil)))) fa_nil)) (fe_var 6)) (fs_one (fs_ret fe_bl)) fs_nil))))))))))))))))
  (fs_one (fs_ret fe_bl)))
end
theorem all_mk {w : World} {K : PySem.W.Frag} {h : Heap} {mg : Str → Option Value} {fa : Addr} (X : K.In h) (G : h.Ns mainGlobals mg) (hfa : mg "law" = some (.ref fa))
    {a_product_sum a_apart_fault a_table_sums a_table_worst a_table_squares a_normal_table a_lots_of_signs a__law_pot a__law_draw a__law_mixed a__law_signs a__law_table a__law_apart a__law_rows a_law : Addr} {od_product_sum an_product_sum od_apart_fault an_apart_fault od_table_sums an_table_sums od_table_worst an_table_worst od_table_squares an_table_squares od_normal_table an_normal_table od_lots_of_signs an_lots_of_signs od__law_pot an__law_pot od__law_draw an__law_draw od__law_mixed an__law_mixed od__law_signs an__law_signs od__law_table an__law_table od__law_apart an__law_apart od__law_rows an__law_rows od_law an_law : Option Addr} {sl_product_sum sl_apart_fault sl_table_sums sl_table_worst sl_table_squares sl_normal_table sl_lots_of_signs sl__law_pot sl__law_draw sl__law_mixed sl__law_signs sl__law_table sl__law_apart sl__law_rows sl_law : Array (Option Value)}
    {oc_product_sum kV_product_sum dc_product_sum pm_product_sum cd_product_sum ct_product_sum oc_apart_fault kV_apart_fault dc_apart_fault pm_apart_fault cd_apart_fault ct_apart_fault oc_table_sums kV_table_sums dc_table_sums pm_table_sums cd_table_sums ct_table_sums oc_table_worst kV_table_worst dc_table_worst pm_table_worst cd_table_worst ct_table_worst oc_table_squares kV_table_squares dc_table_squares pm_table_squares cd_table_squares ct_table_squares oc_normal_table kV_normal_table dc_normal_table pm_normal_table cd_normal_table ct_normal_table oc_lots_of_signs kV_lots_of_signs dc_lots_of_signs pm_lots_of_signs cd_lots_of_signs ct_lots_of_signs oc__law_pot kV__law_pot dc__law_pot pm__law_pot cd__law_pot ct__law_pot oc__law_draw kV__law_draw dc__law_draw pm__law_draw cd__law_draw ct__law_draw oc__law_mixed kV__law_mixed dc__law_mixed pm__law_mixed cd__law_mixed ct__law_mixed oc__law_signs kV__law_signs dc__law_signs pm__law_signs cd__law_signs ct__law_signs oc__law_table kV__law_table dc__law_table pm__law_table cd__law_table ct__law_table oc__law_apart kV__law_apart dc__law_apart pm__law_apart cd__law_apart ct__law_apart oc__law_rows kV__law_rows dc__law_rows pm__law_rows cd__law_rows ct__law_rows oc_law kV_law dc_law pm_law cd_law ct_law : Value}
    (n_product_sum : PySem.W.nsIn K mainGlobals "product_sum" = some (some (.ref a_product_sum))) (l_product_sum : K.lookup a_product_sum = some ⟨oc_product_sum, od_product_sum, .func (PySem.W.fnOf "product_sum" "product_sum" (defArgs (topS 1)) (defBody (topS 1)) (defScope (topS 1)) .none kV_product_sum dc_product_sum pm_product_sum an_product_sum cd_product_sum ct_product_sum), sl_product_sum⟩) (c_product_sum : PySem.W.codeIn K cd_product_sum "product_sum" = true) (k_product_sum : PySem.W.keepIn K (.ref a_product_sum) = true)
    (n_apart_fault : PySem.W.nsIn K mainGlobals "apart_fault" = some (some (.ref a_apart_fault))) (l_apart_fault : K.lookup a_apart_fault = some ⟨oc_apart_fault, od_apart_fault, .func (PySem.W.fnOf "apart_fault" "apart_fault" (defArgs (topS 2)) (defBody (topS 2)) (defScope (topS 2)) .none kV_apart_fault dc_apart_fault pm_apart_fault an_apart_fault cd_apart_fault ct_apart_fault), sl_apart_fault⟩) (c_apart_fault : PySem.W.codeIn K cd_apart_fault "apart_fault" = true) (k_apart_fault : PySem.W.keepIn K (.ref a_apart_fault) = true)
    (n_table_sums : PySem.W.nsIn K mainGlobals "table_sums" = some (some (.ref a_table_sums))) (l_table_sums : K.lookup a_table_sums = some ⟨oc_table_sums, od_table_sums, .func (PySem.W.fnOf "table_sums" "table_sums" (defArgs (topS 3)) (defBody (topS 3)) (defScope (topS 3)) .none kV_table_sums dc_table_sums pm_table_sums an_table_sums cd_table_sums ct_table_sums), sl_table_sums⟩) (c_table_sums : PySem.W.codeIn K cd_table_sums "table_sums" = true) (k_table_sums : PySem.W.keepIn K (.ref a_table_sums) = true)
    (n_table_worst : PySem.W.nsIn K mainGlobals "table_worst" = some (some (.ref a_table_worst))) (l_table_worst : K.lookup a_table_worst = some ⟨oc_table_worst, od_table_worst, .func (PySem.W.fnOf "table_worst" "table_worst" (defArgs (topS 4)) (defBody (topS 4)) (defScope (topS 4)) .none kV_table_worst dc_table_worst pm_table_worst an_table_worst cd_table_worst ct_table_worst), sl_table_worst⟩) (c_table_worst : PySem.W.codeIn K cd_table_worst "table_worst" = true) (k_table_worst : PySem.W.keepIn K (.ref a_table_worst) = true)
    (n_table_squares : PySem.W.nsIn K mainGlobals "table_squares" = some (some (.ref a_table_squares))) (l_table_squares : K.lookup a_table_squares = some ⟨oc_table_squares, od_table_squares, .func (PySem.W.fnOf "table_squares" "table_squares" (defArgs (topS 5)) (defBody (topS 5)) (defScope (topS 5)) .none kV_table_squares dc_table_squares pm_table_squares an_table_squares cd_table_squares ct_table_squares), sl_table_squares⟩) (c_table_squares : PySem.W.codeIn K cd_table_squares "table_squares" = true) (k_table_squares : PySem.W.keepIn K (.ref a_table_squares) = true)
    (n_normal_table : PySem.W.nsIn K mainGlobals "normal_table" = some (some (.ref a_normal_table))) (l_normal_table : K.lookup a_normal_table = some ⟨oc_normal_table, od_normal_table, .func (PySem.W.fnOf "normal_table" "normal_table" (defArgs (topS 6)) (defBody (topS 6)) (defScope (topS 6)) .none kV_normal_table dc_normal_table pm_normal_table an_normal_table cd_normal_table ct_normal_table), sl_normal_table⟩) (c_normal_table : PySem.W.codeIn K cd_normal_table "normal_table" = true) (k_normal_table : PySem.W.keepIn K (.ref a_normal_table) = true)
    (n_lots_of_signs : PySem.W.nsIn K mainGlobals "lots_of_signs" = some (some (.ref a_lots_of_signs))) (l_lots_of_signs : K.lookup a_lots_of_signs = some ⟨oc_lots_of_signs, od_lots_of_signs, .func (PySem.W.fnOf "lots_of_signs" "lots_of_signs" (defArgs (topS 7)) (defBody (topS 7)) (defScope (topS 7)) .none kV_lots_of_signs dc_lots_of_signs pm_lots_of_signs an_lots_of_signs cd_lots_of_signs ct_lots_of_signs), sl_lots_of_signs⟩) (c_lots_of_signs : PySem.W.codeIn K cd_lots_of_signs "lots_of_signs" = true) (k_lots_of_signs : PySem.W.keepIn K (.ref a_lots_of_signs) = true)
    (n__law_pot : PySem.W.nsIn K mainGlobals "_law_pot" = some (some (.ref a__law_pot))) (l__law_pot : K.lookup a__law_pot = some ⟨oc__law_pot, od__law_pot, .func (PySem.W.fnOf "_law_pot" "_law_pot" (defArgs (topS 9)) (defBody (topS 9)) (defScope (topS 9)) .none kV__law_pot dc__law_pot pm__law_pot an__law_pot cd__law_pot ct__law_pot), sl__law_pot⟩) (c__law_pot : PySem.W.codeIn K cd__law_pot "_law_pot" = true) (k__law_pot : PySem.W.keepIn K (.ref a__law_pot) = true)
    (n__law_draw : PySem.W.nsIn K mainGlobals "_law_draw" = some (some (.ref a__law_draw))) (l__law_draw : K.lookup a__law_draw = some ⟨oc__law_draw, od__law_draw, .func (PySem.W.fnOf "_law_draw" "_law_draw" (defArgs (topS 10)) (defBody (topS 10)) (defScope (topS 10)) .none kV__law_draw dc__law_draw pm__law_draw an__law_draw cd__law_draw ct__law_draw), sl__law_draw⟩) (c__law_draw : PySem.W.codeIn K cd__law_draw "_law_draw" = true) (k__law_draw : PySem.W.keepIn K (.ref a__law_draw) = true)
    (n__law_mixed : PySem.W.nsIn K mainGlobals "_law_mixed" = some (some (.ref a__law_mixed))) (l__law_mixed : K.lookup a__law_mixed = some ⟨oc__law_mixed, od__law_mixed, .func (PySem.W.fnOf "_law_mixed" "_law_mixed" (defArgs (topS 11)) (defBody (topS 11)) (defScope (topS 11)) .none kV__law_mixed dc__law_mixed pm__law_mixed an__law_mixed cd__law_mixed ct__law_mixed), sl__law_mixed⟩) (c__law_mixed : PySem.W.codeIn K cd__law_mixed "_law_mixed" = true) (k__law_mixed : PySem.W.keepIn K (.ref a__law_mixed) = true)
    (n__law_signs : PySem.W.nsIn K mainGlobals "_law_signs" = some (some (.ref a__law_signs))) (l__law_signs : K.lookup a__law_signs = some ⟨oc__law_signs, od__law_signs, .func (PySem.W.fnOf "_law_signs" "_law_signs" (defArgs (topS 12)) (defBody (topS 12)) (defScope (topS 12)) .none kV__law_signs dc__law_signs pm__law_signs an__law_signs cd__law_signs ct__law_signs), sl__law_signs⟩) (c__law_signs : PySem.W.codeIn K cd__law_signs "_law_signs" = true) (k__law_signs : PySem.W.keepIn K (.ref a__law_signs) = true)
    (n__law_table : PySem.W.nsIn K mainGlobals "_law_table" = some (some (.ref a__law_table))) (l__law_table : K.lookup a__law_table = some ⟨oc__law_table, od__law_table, .func (PySem.W.fnOf "_law_table" "_law_table" (defArgs (topS 13)) (defBody (topS 13)) (defScope (topS 13)) .none kV__law_table dc__law_table pm__law_table an__law_table cd__law_table ct__law_table), sl__law_table⟩) (c__law_table : PySem.W.codeIn K cd__law_table "_law_table" = true) (k__law_table : PySem.W.keepIn K (.ref a__law_table) = true)
    (n__law_apart : PySem.W.nsIn K mainGlobals "_law_apart" = some (some (.ref a__law_apart))) (l__law_apart : K.lookup a__law_apart = some ⟨oc__law_apart, od__law_apart, .func (PySem.W.fnOf "_law_apart" "_law_apart" (defArgs (topS 14)) (defBody (topS 14)) (defScope (topS 14)) .none kV__law_apart dc__law_apart pm__law_apart an__law_apart cd__law_apart ct__law_apart), sl__law_apart⟩) (c__law_apart : PySem.W.codeIn K cd__law_apart "_law_apart" = true) (k__law_apart : PySem.W.keepIn K (.ref a__law_apart) = true)
    (n__law_rows : PySem.W.nsIn K mainGlobals "_law_rows" = some (some (.ref a__law_rows))) (l__law_rows : K.lookup a__law_rows = some ⟨oc__law_rows, od__law_rows, .func (PySem.W.fnOf "_law_rows" "_law_rows" (defArgs (topS 15)) (defBody (topS 15)) (defScope (topS 15)) .none kV__law_rows dc__law_rows pm__law_rows an__law_rows cd__law_rows ct__law_rows), sl__law_rows⟩) (c__law_rows : PySem.W.codeIn K cd__law_rows "_law_rows" = true) (k__law_rows : PySem.W.keepIn K (.ref a__law_rows) = true)
    (n_law : PySem.W.nsIn K mainGlobals "law" = some (some (.ref a_law))) (l_law : K.lookup a_law = some ⟨oc_law, od_law, .func (PySem.W.fnOf "law" "law" (defArgs (topS 16)) (defBody (topS 16)) (defScope (topS 16)) .none kV_law dc_law pm_law an_law cd_law ct_law), sl_law⟩) (c_law : PySem.W.codeIn K cd_law "law" = true) (k_law : PySem.W.keepIn K (.ref a_law) = true)
    (z_abs : PySem.W.nsIn K mainGlobals "abs" = some none)
    (z_any : PySem.W.nsIn K mainGlobals "any" = some none)
    (z_enumerate : PySem.W.nsIn K mainGlobals "enumerate" = some none)
    (z_int : PySem.W.nsIn K mainGlobals "int" = some none)
    (z_len : PySem.W.nsIn K mainGlobals "len" = some none)
    (z_list : PySem.W.nsIn K mainGlobals "list" = some none)
    (z_max : PySem.W.nsIn K mainGlobals "max" = some none)
    (z_range : PySem.W.nsIn K mainGlobals "range" = some none)
    (z_repr : PySem.W.nsIn K mainGlobals "repr" = some none)
    (z_sum : PySem.W.nsIn K mainGlobals "sum" = some none)
    (z_tuple : PySem.W.nsIn K mainGlobals "tuple" = some none)
    (z_zip : PySem.W.nsIn K mainGlobals "zip" = some none)
    : ∃ fd : FuncData, (∀ (s : Shared) (v : Value), BindsTo s fd ⟨[v], []⟩ [("script", v)]) ∧ Fun K "law" "law" (topS 16) fa fd ∧ Nonempty (Txt K mg) := by
  have e := hfa.symm.trans (PySem.W.mg_of X G n_law)
  cases e
  refine ⟨_, fun s v => .of_eq rfl, fun_mk (st := topS 16) l_law c_law k_law, ⟨?_⟩⟩
  have F_product_sum := fun_mk (st := topS 1) l_product_sum c_product_sum k_product_sum
  have F_apart_fault := fun_mk (st := topS 2) l_apart_fault c_apart_fault k_apart_fault
  have F_table_sums := fun_mk (st := topS 3) l_table_sums c_table_sums k_table_sums
  have F_table_worst := fun_mk (st := topS 4) l_table_worst c_table_worst k_table_worst
  have F_table_squares := fun_mk (st := topS 5) l_table_squares c_table_squares k_table_squares
  have F_normal_table := fun_mk (st := topS 6) l_normal_table c_normal_table k_normal_table
  have F_lots_of_signs := fun_mk (st := topS 7) l_lots_of_signs c_lots_of_signs k_lots_of_signs
  have F__law_pot := fun_mk (st := topS 9) l__law_pot c__law_pot k__law_pot
  have F__law_draw := fun_mk (st := topS 10) l__law_draw c__law_draw k__law_draw
  have F__law_mixed := fun_mk (st := topS 11) l__law_mixed c__law_mixed k__law_mixed
  have F__law_signs := fun_mk (st := topS 12) l__law_signs c__law_signs k__law_signs
  have F__law_table := fun_mk (st := topS 13) l__law_table c__law_table k__law_table
  have F__law_apart := fun_mk (st := topS 14) l__law_apart c__law_apart k__law_apart
  have F__law_rows := fun_mk (st := topS 15) l__law_rows c__law_rows k__law_rows
  exact {
    a_product_sum := a_product_sum, d_product_sum := _, F_product_sum := F_product_sum, m_product_sum := PySem.W.mg_of X G n_product_sum, b_product_sum := F_product_sum.binds fun _ _ _ _ _ _ us hl => match us, hl with | [_, _], _ => rfl,
    a_apart_fault := a_apart_fault, d_apart_fault := _, F_apart_fault := F_apart_fault, m_apart_fault := PySem.W.mg_of X G n_apart_fault, b_apart_fault := F_apart_fault.binds fun _ _ _ _ _ _ us hl => match us, hl with | [_], _ => rfl,
    a_table_sums := a_table_sums, d_table_sums := _, F_table_sums := F_table_sums, m_table_sums := PySem.W.mg_of X G n_table_sums, b_table_sums := F_table_sums.binds fun _ _ _ _ _ _ us hl => match us, hl with | [_, _], _ => rfl,
    a_table_worst := a_table_worst, d_table_worst := _, F_table_worst := F_table_worst, m_table_worst := PySem.W.mg_of X G n_table_worst, b_table_worst := F_table_worst.binds fun _ _ _ _ _ _ us hl => match us, hl with | [_, _], _ => rfl,
    a_table_squares := a_table_squares, d_table_squares := _, F_table_squares := F_table_squares, m_table_squares := PySem.W.mg_of X G n_table_squares, b_table_squares := F_table_squares.binds fun _ _ _ _ _ _ us hl => match us, hl with | [_, _], _ => rfl,
    k0_table_squares := kb_of (ks := ["signs", "table"]) (ix := [1, 0]) F_table_squares (by decide) fun _ _ _ _ _ _ us hl => match us, hl with | [_, _], _ => rfl,
    a_normal_table := a_normal_table, d_normal_table := _, F_normal_table := F_normal_table, m_normal_table := PySem.W.mg_of X G n_normal_table, b_normal_table := F_normal_table.binds fun _ _ _ _ _ _ us hl => match us, hl with | [_], _ => rfl,
    k0_normal_table := kb_of (ks := ["table"]) (ix := [0]) F_normal_table (by decide) fun _ _ _ _ _ _ us hl => match us, hl with | [_], _ => rfl,
    a_lots_of_signs := a_lots_of_signs, d_lots_of_signs := _, F_lots_of_signs := F_lots_of_signs, m_lots_of_signs := PySem.W.mg_of X G n_lots_of_signs, b_lots_of_signs := F_lots_of_signs.binds fun _ _ _ _ _ _ us hl => match us, hl with | [_], _ => rfl,
    k0_lots_of_signs := kb_of (ks := ["table"]) (ix := [0]) F_lots_of_signs (by decide) fun _ _ _ _ _ _ us hl => match us, hl with | [_], _ => rfl,
    a__law_pot := a__law_pot, d__law_pot := _, F__law_pot := F__law_pot, m__law_pot := PySem.W.mg_of X G n__law_pot, b__law_pot := F__law_pot.binds fun _ _ _ _ _ _ us hl => match us, hl with | [_], _ => rfl,
    a__law_draw := a__law_draw, d__law_draw := _, F__law_draw := F__law_draw, m__law_draw := PySem.W.mg_of X G n__law_draw, b__law_draw := F__law_draw.binds fun _ _ _ _ _ _ us hl => match us, hl with | [_, _], _ => rfl,
    a__law_mixed := a__law_mixed, d__law_mixed := _, F__law_mixed := F__law_mixed, m__law_mixed := PySem.W.mg_of X G n__law_mixed, b__law_mixed := F__law_mixed.binds fun _ _ _ _ _ _ us hl => match us, hl with | [_, _], _ => rfl,
    a__law_signs := a__law_signs, d__law_signs := _, F__law_signs := F__law_signs, m__law_signs := PySem.W.mg_of X G n__law_signs, b__law_signs := F__law_signs.binds fun _ _ _ _ _ _ us hl => match us, hl with | [_, _], _ => rfl,
    a__law_table := a__law_table, d__law_table := _, F__law_table := F__law_table, m__law_table := PySem.W.mg_of X G n__law_table, b__law_table := F__law_table.binds fun _ _ _ _ _ _ us hl => match us, hl with | [_, _], _ => rfl,
    a__law_apart := a__law_apart, d__law_apart := _, F__law_apart := F__law_apart, m__law_apart := PySem.W.mg_of X G n__law_apart, b__law_apart := F__law_apart.binds fun _ _ _ _ _ _ us hl => match us, hl with | [_], _ => rfl,
    a__law_rows := a__law_rows, d__law_rows := _, F__law_rows := F__law_rows, m__law_rows := PySem.W.mg_of X G n__law_rows, b__law_rows := F__law_rows.binds fun _ _ _ _ _ _ us hl => match us, hl with | [_, _], _ => rfl,
    z_abs := PySem.W.mg_none_of X G z_abs,
    z_any := PySem.W.mg_none_of X G z_any,
    z_enumerate := PySem.W.mg_none_of X G z_enumerate,
    z_int := PySem.W.mg_none_of X G z_int,
    z_len := PySem.W.mg_none_of X G z_len,
    z_list := PySem.W.mg_none_of X G z_list,
    z_max := PySem.W.mg_none_of X G z_max,
    z_range := PySem.W.mg_none_of X G z_range,
    z_repr := PySem.W.mg_none_of X G z_repr,
    z_sum := PySem.W.mg_none_of X G z_sum,
    z_tuple := PySem.W.mg_none_of X G z_tuple,
    z_zip := PySem.W.mg_none_of X G z_zip }
end Wk

namespace Wk
open PySem L2 FL

def pairD (p : Int × Int) : D := .tuple [.int p.1, .int p.2]
theorem zipL_map : ∀ xs ys : List Int, zipL (xs.map .int) (ys.map .int) = (xs.zip ys).map pairD
  | [], _ => by simp [zipL]
  | _ :: _, [] => by simp [zipL]
  | x :: xs, y :: ys => by
    rw [List.map_cons, List.map_cons, List.zip_cons_cons, List.map_cons, ← zipL_map xs ys]; rfl
theorem zip_mul : ∀ xs ys : List Int, (xs.zip ys).map (fun p => p.1 * p.2) = List.zipWith (· * ·) xs ys
  | [], _ => by simp
  | _ :: _, [] => by simp
  | x :: xs, y :: ys => by
    rw [List.zip_cons_cons, List.map_cons, List.zipWith_cons_cons, zip_mul xs ys]
theorem zip_len (xs ys : List Int) : (xs.zip ys).length ≤ xs.length := by rw [List.length_zip]; omega
theorem pm_small {x : Int} (h : x = 1 ∨ x = -1) : x.natAbs < 2 ^ 64 := by rcases h with h | h <;> rw [h] <;> decide
theorem zip_F (xs ys : List Int) : zipF [dT xs, dT ys] = some ((xs.zip ys).map pairD) := by
  show some (zipL (xs.map .int) (ys.map .int)) = _
  rw [zipL_map]
theorem map_ints (l : List (Int × Int)) : (l.map fun p => PyData.int (p.1 * p.2)) = (l.map fun p => p.1 * p.2).map .int := by rw [List.map_map]; rfl
theorem sum_dot (xs ys : List Int) : fSum [.list ((xs.zip ys).map fun p => .int (p.1 * p.2))] = some (.int (dot xs ys)) := by
  rw [map_ints, sum_intsL, zip_mul]; rfl
theorem v_psum {xs ys : List Int} (h : PM xs) (hl : xs.length ≤ 16) : f_product_sum [dT xs, dT ys] = some (.int (dot xs ys)) := by
  refine run_P (ends_ret (ev (e_call (a_one (e_L (comp_ev (i_by (a_cons (e_var rfl) (a_one (e_var rfl))) (zip_F xs ys)) (by rw [List.length_map]; have := zip_len xs ys; unfold sizeLine; omega) (by rfl)
    (lc_all (h := fun p => .int (p.1 * p.2)) pairD (fun p => [.val (dT xs), .val (dT ys), .val (.int p.1), .val (.int p.2)]) (xs.zip ys) (fun p _ => rfl) fun p hp => ?_)))) (sum_dot xs ys)) rfl))
  exact e_bin (e_var rfl) (e_var rfl) (mul_small (pm_small (h _ (List.of_mem_zip hp).1)))
variable {n : Nat} {t : List (List Int)} {s : List Int}
def rowsOf (t : List (List Int)) (s : List Int) : List Int := t.map fun r => dot r s
theorem v_tsums (h : Tb n t) (hn : n ≤ 16) (hs : s.length = n) : f_table_sums [dTs t, dT s] = some (dT (rowsOf t s)) := by
  refine run_P (ends_ret (ev (e_call (a_one (e_L (comp_ev (i_of (e_var rfl) rfl) (by rw [List.length_map, h.len]; unfold sizeLine; omega) (by rfl)
    (lc_all (h := fun r => .int (dot r s)) dT (fun r => [.val (dTs t), .val (dT s), .val (dT r)]) t (fun r _ => rfl) fun r hr => ?_)))) (?_ : _ = some (dT (rowsOf t s)))) rfl))
  · exact e_call (a_cons (e_var rfl) (a_one (e_var rfl))) (len_is rfl (v_psum (h.pm r hr) (by rw [h.row r hr]; exact hn)))
  · show fTuple [.list _] = _
    unfold rowsOf dT
    rw [List.map_map]; rfl
theorem v_lrows (h : Tb n t) (hn : n ≤ 16) (hs : s.length = n) : f__law_rows [dTs t, dT s] = some (.list ((rowsOf t s).map .int)) := by
  refine run_P (ends_ret (ev (e_L (comp_ev (i_of (e_var rfl) rfl) (by rw [List.length_map, h.len]; unfold sizeLine; omega) (by rfl)
    (lc_all (h := fun r => .int (dot r s)) dT (fun r => [.val (dTs t), .val (dT s), .un, .un, .val (dT r)]) t (fun r _ => rfl) fun r hr => ?_))) ?_))
  · refine e_call (a_one (e_L (comp_ev (i_by (a_cons (e_var rfl) (a_one (e_var rfl))) (zip_F r s)) (by rw [List.length_map]; have := zip_len r s; rw [h.row r hr] at this; unfold sizeLine; omega) (by rfl)
      (lc_all (h := fun p => .int (p.1 * p.2)) pairD (fun p => [.val (dTs t), .val (dT s), .val (.int p.1), .val (.int p.2), .val (dT r)]) (r.zip s) (fun p _ => rfl) fun p hp => ?_)))) (sum_dot r s)
    exact e_bin (e_var rfl) (e_var rfl) (mul_small (pm_small (h.pm r hr _ (List.of_mem_zip hp).1)))
  · unfold rowsOf
    rw [List.map_map]; rfl
theorem dot_bd (h : Tb n t) (hn : n ≤ 16) (hs : s.length = n) (hp : PM s) : ∀ x ∈ rowsOf t s, -16 ≤ x ∧ x ≤ 16 := fun x hx => by
  obtain ⟨r, hr, rfl⟩ := List.mem_map.mp hx
  rw [dot_S (h.row r hr) hs]
  have hb : ∀ k, k < n → -1 ≤ r.getD k 0 * s.getD k 0 ∧ r.getD k 0 * s.getD k 0 ≤ 1 := fun k hk => by
    rcases h.pm r hr _ (getD_mem (d := 0) (by rw [h.row r hr]; exact hk)) with z | z <;> rcases hp _ (getD_mem (d := 0) (by rw [hs]; exact hk)) with w | w <;> rw [z, w] <;> decide
  have h1 := S_le (f := fun _ => -1) (fun k hk => (hb k hk).1)
  have h2 := S_le (g := fun _ => 1) (fun k hk => (hb k hk).2)
  rw [S_const] at h1 h2
  omega
def sqs (l : List Int) : Int := (l.map fun x => x * x).sum
theorem map_sq (l : List Int) : (l.map fun x => PyData.int (x * x)) = (l.map fun x => x * x).map .int := by rw [List.map_map]; rfl
theorem v_tsq (h : Tb n t) (hn : n ≤ 16) (hs : s.length = n) (hp : PM s) : f_table_squares [dTs t, dT s] = some (.int (sqs (rowsOf t s))) := by
  refine run_P (ends_ret (ev (e_call (a_one (e_L (comp_ev (i_of (e_call (a_cons (e_var rfl) (a_one (e_var rfl))) (len_is rfl (v_tsums h hn hs))) rfl) (by rw [List.length_map]; unfold rowsOf; rw [List.length_map, h.len]; unfold sizeLine; omega) (by rfl)
    (lc_all (h := fun x => .int (x * x)) .int (fun x => [.val (dTs t), .val (dT s), .val (.int x)]) (rowsOf t s) (fun x _ => rfl) fun x hx => ?_)))) (?_ : _ = some (.int (sqs (rowsOf t s))))) rfl))
  · exact e_bin (e_var rfl) (e_var rfl) (mul_small (by have := dot_bd h hn hs hp x hx; omega))
  · rw [map_sq, sum_intsL]; rfl
def absL (l : List Int) : List Int := l.map fun x => ((x.natAbs : Nat) : Int)
theorem v_tworst (h : Tb n t) (hn : n ≤ 16) (hn0 : 0 < n) (hs : s.length = n) : f_table_worst [dTs t, dT s] = some (.int (mostOf (absL (rowsOf t s)))) := by
  refine run_P (ends_ret (ev (e_call (a_one (e_L (comp_ev (i_of (e_call (a_cons (e_var rfl) (a_one (e_var rfl))) (len_is rfl (v_tsums h hn hs))) rfl) (by rw [List.length_map]; unfold rowsOf; rw [List.length_map, h.len]; unfold sizeLine; omega) (by rfl)
    (lc_all (h := fun x => .int ((x.natAbs : Nat) : Int)) .int (fun x => [.val (dTs t), .val (dT s), .val (.int x)]) (rowsOf t s) (fun x _ => rfl) fun x hx => ?_)))) (?_ : _ = some (.int (mostOf (absL (rowsOf t s)))))) rfl))
  · exact e_call (a_one (e_var rfl)) rfl
  · have : ((rowsOf t s).map fun x => PyData.int ((x.natAbs : Nat) : Int)) = (absL (rowsOf t s)).map .int := by unfold absL; rw [List.map_map]; rfl
    rw [this, max_intsL]
    intro e
    have := congrArg List.length e
    unfold absL rowsOf at this
    rw [List.length_map, List.length_map, h.len] at this
    simp at this; omega
/-! ### the table made normal -/
theorem dT_get {r : List Int} {k : Nat} (h : k < r.length) : fIx (dT r) (.int (k : Nat)) = some (.int (r.getD k 0)) := by
  have := ix_tup (l := r) (f := PyData.int) (k := (k : Int)) (by omega) (by omega)
  rw [List.getD_eq_getElem?_getD, List.getElem?_eq_getElem h]
  exact this
theorem dTs_get {k : Nat} (h : k < t.length) : fIx (dTs t) (.int (k : Nat)) = some (dT (t.getD k [])) := by
  have := ix_tup (l := t) (f := dT) (k := (k : Int)) (by omega) (by omega)
  rw [List.getD_eq_getElem?_getD, List.getElem?_eq_getElem h]
  exact this
theorem L_get {r : List Int} {k : Nat} (h : k < r.length) : fIx (.list (r.map .int)) (.int (k : Nat)) = some (.int (r.getD k 0)) := by
  have := ix_list (l := r) (f := PyData.int) (k := (k : Int)) (by omega) (by omega)
  rw [List.getD_eq_getElem?_getD, List.getElem?_eq_getElem h]
  exact this
def zw (r h : List Int) : List Int := List.zipWith (· * ·) r h
theorem map_zw (r h : List Int) : ((r.zip h).map fun p => PyData.int (p.1 * p.2)) = (zw r h).map .int := by rw [map_ints, zip_mul]; rfl
theorem map_nrow (r h : List Int) : ((zw r h).map fun x => PyData.int (x * (zw r h).getD 0 0)) = (nrow r h).map .int := by unfold nrow; rw [List.map_map]; rfl
theorem v_norm (h : Tb n t) (hn : n ≤ 16) (hn0 : 0 < n) : f_normal_table [dTs t] = some (dTs (nrm t)) := by
  have h0 := getD_mem (d := []) (show 0 < t.length by rw [h.len]; exact hn0)
  refine run_P (ends_seq (ends_set (ev (e_bin (e_var rfl) e_c (dTs_get (k := 0) (by rw [h.len]; exact hn0))) ?_)))
  generalize hh : t.getD 0 [] = hd at *
  refine ends_seq (ends_set (ev (e_L (comp_ev (i_of (e_var rfl) rfl) (by rw [List.length_map, h.len]; unfold sizeLine; omega) (by rfl)
    (lc_all (h := fun r => .list ((zw r hd).map .int)) dT (fun r => [.val (dTs t), .val (dT hd), .un, .un, .un, .val (dT r)]) t (fun r _ => rfl) fun r hr => ?_))) ?_))
  · refine e_L (comp_ev (i_by (a_cons (e_var rfl) (a_one (e_var rfl))) (zip_F r hd)) (by rw [List.length_map]; have := zip_len r hd; rw [h.row r hr] at this; unfold sizeLine; omega) (by rfl) ?_)
    rw [← map_zw]
    refine lc_all (h := fun p => .int (p.1 * p.2)) pairD (fun p => [.val (dTs t), .val (dT hd), .un, .val (.int p.1), .val (.int p.2), .val (dT r)]) (r.zip hd) (fun p _ => rfl) fun p hp => ?_
    exact e_bin (e_var rfl) (e_var rfl) (mul_small (pm_small (h.pm r hr _ (List.of_mem_zip hp).1)))
  · refine ends_ret (ev (e_call (a_one (e_L (comp_ev (i_of (e_var rfl) rfl) (by rw [List.length_map, h.len]; unfold sizeLine; omega) (by rfl)
      (lc_all (h := fun r => dT (nrow r hd)) (fun r => .list ((zw r hd).map .int)) (fun r => [.val (dTs t), .val (dT hd), .val (.list (t.map fun r => .list ((zw r hd).map .int))), .un, .un, .val (.list ((zw r hd).map .int))]) t (fun r _ => rfl) fun r hr => ?_)))) (?_ : _ = some (dTs (nrm t)))) rfl)
    · have hl := zw_len (h.row r hr) (h.row hd h0)
      have hp := zw_pm (h.pm r hr) (h.pm hd h0)
      refine e_call (a_one (e_L (comp_ev (i_of (e_var rfl) rfl) (by rw [List.length_map]; unfold zw; rw [hl]; unfold sizeLine; omega) (by rfl) ?_))) (tuple_map _ _)
      rw [← map_nrow]
      refine lc_all (h := fun x => .int (x * (zw r hd).getD 0 0)) .int (fun x => [.val (dTs t), .val (dT hd), .val (.list (t.map fun r => .list ((zw r hd).map .int))), .val (.int x), .un, .val (.list ((zw r hd).map .int))]) (zw r hd) (fun x _ => rfl) fun x hx => ?_
      exact e_bin (e_var rfl) (e_bin (e_var rfl) e_c (L_get (k := 0) (by unfold zw; rw [hl]; exact hn0))) (mul_small (pm_small (hp x hx)))
    · show fTuple [.list _] = _
      unfold nrm dTs
      rw [List.map_map, hh]; rfl
/-! ### lots of the signs -/
def idxL : Nat → List Int → List (Int × Int)
  | _, [] => []
  | k, x :: r => ((k : Int), x) :: idxL (k + 1) r
theorem enumL_map : ∀ (k : Nat) (xs : List Int), enumL k (xs.map .int) = (idxL k xs).map pairD
  | _, [] => rfl
  | k, x :: r => by
    rw [List.map_cons]
    show PyData.tuple [.int (k : Nat), .int x] :: enumL (k + 1) (r.map .int) = _
    rw [enumL_map (k + 1) r]; rfl
theorem enum_F (xs : List Int) : enumFA [dT xs] = some ((idxL 0 xs).map pairD) := by
  show some (enumL 0 (xs.map .int)) = _
  rw [enumL_map]
theorem idxL_len : ∀ (k : Nat) (xs : List Int), (idxL k xs).length = xs.length
  | _, [] => rfl
  | k, x :: r => by show (idxL (k + 1) r).length + 1 = _; rw [idxL_len (k + 1) r]; rfl
theorem idxL_bd : ∀ (k : Nat) (xs : List Int) (p : Int × Int), p ∈ idxL k xs → 0 ≤ p.1 ∧ p.1 < k + xs.length
  | _, [], p, h => by cases h
  | k, x :: r, p, h => by
    rcases List.mem_cons.mp h with e | h
    · rw [e, List.length_cons]; show (0 : Int) ≤ k ∧ (k : Int) < _; omega
    · have := idxL_bd (k + 1) r p h
      rw [List.length_cons]; omega
def oneL (r : List Int) : List Int := ((idxL 0 r).filter fun p => p.2 == 1).map (·.1)
theorem map_one (r : List Int) : (((idxL 0 r).filter fun p => p.2 == 1).map fun p => PyData.int p.1) = (oneL r).map .int := by unfold oneL; rw [List.map_map]; rfl
theorem v_lots (h : Tb n t) (hn : n ≤ 16) : f_lots_of_signs [dTs t] = some (dTs (t.map oneL)) := by
  refine run_P (ends_ret (ev (e_call (a_one (e_L (comp_ev (i_of (e_var rfl) rfl) (by rw [List.length_map, h.len]; unfold sizeLine; omega) (by rfl)
    (lc_all (h := fun r => dT (oneL r)) dT (fun r => [.val (dTs t), .un, .un, .val (dT r)]) t (fun r _ => rfl) fun r hr => ?_)))) (?_ : _ = some (dTs (t.map oneL)))) rfl))
  · refine e_call (a_one (e_L (comp_ev (i_by (a_one (e_var rfl)) (enum_F r)) (by rw [List.length_map, idxL_len, h.row r hr]; unfold sizeLine; omega) (by rfl) ?_))) (tuple_map _ _)
    rw [← map_one]
    exact lc_map pairD (fun p => [.val (dTs t), .val (.int p.1), .val (.int p.2), .val (dT r)]) (fun p => p.2 == 1) (fun p => .int p.1) (idxL 0 r) (fun p _ => rfl) (fun p _ => e_test (e_bin (e_var rfl) e_c (eq_int _ _))) fun p _ _ => e_var rfl
  · show fTuple [.list _] = _
    unfold dTs
    rw [List.map_map]; rfl

/-! ### do the rows stand apart -/
def ApTo (t : List (List Int)) (a b : Nat) : Prop := ∀ i j, i < j → j < t.length → (i < a ∨ (i = a ∧ j < b)) → dot (t.getD i []) (t.getD j []) = 0
theorem rng2_F {a b : Nat} (ha : a < 2 ^ 60) (hb : b < 2 ^ 60) : rngF2 [.int a, .int b] = some ((rng (b - a)).map fun k => .int ((a : Int) + k)) := by
  simp only [rngF2]
  rw [if_pos (by omega)]
  unfold rngL rng
  rw [List.map_map, show ((b : Int) - a).toNat = b - a by omega]; rfl
theorem rng2_get {a b i : Nat} {d : D} (h : ((rng (b - a)).map fun k => PyData.int ((a : Int) + k))[i]? = some d) : d = .int ((a + i : Nat) : Int) ∧ a + i < b := by
  rw [List.getElem?_map] at h
  obtain ⟨k, hk, rfl⟩ := mpd h
  have hi : i < b - a := by
    have := (List.getElem?_eq_some_iff.mp hk).1
    rwa [rng_len] at this
  rw [rng_get hi] at hk
  cases hk
  exact ⟨by push_cast; rfl, by omega⟩
theorem v_apart (h : Tb n t) (hn : n ≤ 16) : ∃ d, f_apart_fault [dTs t] = some d ∧ ((Ap t ∧ d = .none) ∨ (¬ Ap t ∧ d ≠ .none)) := by
  have key : Ends s_apart_fault [.val (dTs t), .un, .un, .un] () fun o => ∃ d, outD (some o) = some (d, ()) ∧ ((Ap t ∧ d = .none) ∨ (¬ Ap t ∧ d ≠ .none)) := by
    refine ends_seq (ends_forR (fun i σ _ => (∃ s1 s2 s3, σ = [.val (dTs t), s1, s2, s3]) ∧ ApTo t i 0) (ds := enumL 0 (t.map dT)) (p1 := ()) (i_by (a_one (e_var rfl)) rfl) ⟨⟨_, _, _, rfl⟩, fun i j _ _ hc => by omega⟩ ?_ ?_)
    · rintro i d σ p hi ⟨⟨s1, s2, s3, rfl⟩, hA⟩
      obtain ⟨e, he, rfl⟩ := enumL_get 0 _ i d hi
      obtain ⟨r, hr, rfl⟩ := mpd (by rw [← List.getElem?_map]; exact he)
      rw [Nat.zero_add]
      have hit : i < t.length := (List.getElem?_eq_some_iff.mp hr).1
      have hrm : r ∈ t := List.mem_of_getElem? hr
      have hrd : t.getD i [] = r := by rw [List.getD_eq_getElem?_getD, hr]; rfl
      refine ⟨_, rfl, ?_⟩
      refine ends_forR (fun k σ _ => (∃ s3, σ = [.val (dTs t), .val (.int (i : Nat)), .val (dT r), s3]) ∧ ApTo t i (i + 1 + k)) (p1 := p) (i_by (a_cons (e_bin (e_var rfl) e_c rfl) (a_one (e_call (a_one (e_var rfl)) (by unfold dTs; rw [len_tup, List.length_map])))) (rng2_F (a := i + 1) (b := t.length) (by rw [h.len] at hit; omega) (by rw [h.len]; omega))) ⟨⟨_, rfl⟩, fun a b hab hb hc => hA a b hab hb (by omega)⟩ ?_ ?_
      · rintro k d σ p hk ⟨⟨s3, rfl⟩, hB⟩
        obtain ⟨rfl, hlt⟩ := rng2_get hk
        have hjm := getD_mem (d := []) hlt
        refine ⟨_, rfl, ?_⟩
        have hv : f_product_sum [dT r, dT (t.getD (i + 1 + k) [])] = some (.int (dot r (t.getD (i + 1 + k) []))) := v_psum (h.pm r hrm) (by rw [h.row r hrm]; exact hn)
        by_cases hz : dot r (t.getD (i + 1 + k) []) = 0
        · refine ends_if_f (e_test (e_bin (e_call (a_cons (e_var rfl) (a_one (e_bin (e_var rfl) (e_var rfl) (dTs_get hlt)))) (len_is rfl hv)) e_c (ne_f hz))) (ends_nil (.inl ⟨_, _, rfl, ⟨_, rfl⟩, fun a b hab hb hc => ?_⟩))
          by_cases hq : a = i ∧ b = i + 1 + k
          · rw [hq.1, hq.2, hrd]; exact hz
          · exact hB a b hab hb (by omega)
        · refine ends_if_t (e_test (e_bin (e_call (a_cons (e_var rfl) (a_one (e_bin (e_var rfl) (e_var rfl) (dTs_get hlt)))) (len_is rfl hv)) e_c (ne_t hz))) (ends_ret (ev (e_tup (a_cons (e_var rfl) (a_one (e_var rfl))) (sml rfl)) (.inr ⟨_, _, rfl, .inr ⟨_, _, rfl, _, rfl, .inr ⟨fun hap => hz ?_, fun z => by cases z⟩⟩⟩)))
          rw [← hrd]
          exact hap i (i + 1 + k) (by omega) hlt
      · rintro σ p ⟨⟨s3, rfl⟩, hB⟩
        rw [List.length_map, rng_len] at hB
        exact .inl ⟨_, _, rfl, ⟨_, _, _, rfl⟩, fun a b hab hb hc => hB a b hab hb (by omega)⟩
    · rintro σ p ⟨⟨s1, s2, s3, rfl⟩, hA⟩
      rw [enumL_len, List.length_map] at hA
      exact ends_ret (ev e_c ⟨_, rfl, .inl ⟨fun a b hab hb => hA a b hab hb (by omega), rfl⟩⟩)
  obtain ⟨o, h1, d, h2, h3⟩ := key
  exact ⟨d, run_P ⟨o, h1, h2⟩, h3⟩
theorem v_lapart (h : Tb n t) (hn : n ≤ 16) : ∃ d, f__law_apart [dTs t] = some d ∧ ((Ap t ∧ d = .none) ∨ (¬ Ap t ∧ d ≠ .none)) := by
  have key : Ends s__law_apart [.val (dTs t), .un, .un, .un, .un] () fun o => ∃ d, outD (some o) = some (d, ()) ∧ ((Ap t ∧ d = .none) ∨ (¬ Ap t ∧ d ≠ .none)) := by
    refine ends_seq (ends_forR (fun i σ _ => (∃ s1 s2, σ = [.val (dTs t), s1, s2, .un, .un]) ∧ ApTo t i 0) (p1 := ()) (i_by (a_one (e_call (a_one (e_var rfl)) (by unfold dTs; rw [len_tup, List.length_map]))) (rng_f (by rw [h.len]; omega))) ⟨⟨_, _, rfl⟩, fun i j _ _ hc => by omega⟩ ?_ ?_)
    · rintro i d σ p hi ⟨⟨s1, s2, rfl⟩, hA⟩
      rw [List.getElem?_map] at hi
      obtain ⟨z, hz, rfl⟩ := mpd hi
      have hit : i < t.length := by
        have := (List.getElem?_eq_some_iff.mp hz).1
        rwa [rng_len] at this
      rw [rng_get hit] at hz
      cases hz
      have hrm := getD_mem (d := []) hit
      refine ⟨_, rfl, ?_⟩
      refine ends_forR (fun k σ _ => (∃ s2, σ = [.val (dTs t), .val (.int (i : Nat)), s2, .un, .un]) ∧ ApTo t i (i + 1 + k)) (p1 := p) (i_by (a_cons (e_bin (e_var rfl) e_c rfl) (a_one (e_call (a_one (e_var rfl)) (by unfold dTs; rw [len_tup, List.length_map])))) (rng2_F (a := i + 1) (b := t.length) (by rw [h.len] at hit; omega) (by rw [h.len]; omega))) ⟨⟨_, rfl⟩, fun a b hab hb hc => hA a b hab hb (by omega)⟩ ?_ ?_
      · rintro k d σ p hk ⟨⟨s2, rfl⟩, hB⟩
        obtain ⟨rfl, hlt⟩ := rng2_get hk
        have hjm := getD_mem (d := []) hlt
        refine ⟨_, rfl, ?_⟩
        have hv : xCall fSum (aCons (xLst (lComp [3, 4] (iBy zipF (aCons (xBin fIx (xVar 0) (xVar 1)) (aCons (xBin fIx (xVar 0) (xVar 2)) aNil))) (tgP 3 4) xYes (xBin fMul (xVar 3) (xVar 4)))) aNil) [.val (dTs t), .val (.int (i : Nat)), .val (.int ((i + 1 + k : Nat) : Int)), .un, .un] p = some (.int (dot (t.getD i []) (t.getD (i + 1 + k) [])), p) := by
          refine e_call (a_one (e_L (comp_ev (i_by (a_cons (e_bin (e_var rfl) (e_var rfl) (dTs_get hit)) (a_one (e_bin (e_var rfl) (e_var rfl) (dTs_get hlt)))) (zip_F _ _)) (by rw [List.length_map]; have := zip_len (t.getD i []) (t.getD (i + 1 + k) []); rw [h.row _ hrm] at this; unfold sizeLine; omega) (by rfl)
            (lc_all (h := fun p => .int (p.1 * p.2)) pairD (fun q => [.val (dTs t), .val (.int (i : Nat)), .val (.int ((i + 1 + k : Nat) : Int)), .val (.int q.1), .val (.int q.2)]) _ (fun p _ => rfl) fun p hp => ?_)))) (sum_dot _ _)
          exact e_bin (e_var rfl) (e_var rfl) (mul_small (pm_small (h.pm _ hrm _ (List.of_mem_zip hp).1)))
        by_cases hz : dot (t.getD i []) (t.getD (i + 1 + k) []) = 0
        · refine ends_if_f (e_test (e_bin hv e_c (ne_f hz))) (ends_nil (.inl ⟨_, _, rfl, ⟨_, rfl⟩, fun a b hab hb hc => ?_⟩))
          by_cases hq : a = i ∧ b = i + 1 + k
          · rw [hq.1, hq.2]; exact hz
          · exact hB a b hab hb (by omega)
        · exact ends_if_t (e_test (e_bin hv e_c (ne_t hz))) (ends_ret (ev (e_tup (a_cons (e_var rfl) (a_one (e_var rfl))) (sml rfl)) (.inr ⟨_, _, rfl, .inr ⟨_, _, rfl, _, rfl, .inr ⟨fun hap => hz (hap i (i + 1 + k) (by omega) hlt), fun z => by cases z⟩⟩⟩)))
      · rintro σ p ⟨⟨s2, rfl⟩, hB⟩
        rw [List.length_map, rng_len] at hB
        exact .inl ⟨_, _, rfl, ⟨_, _, rfl⟩, fun a b hab hb hc => hB a b hab hb (by omega)⟩
    · rintro σ p ⟨⟨s1, s2, rfl⟩, hA⟩
      rw [List.length_map, rng_len] at hA
      exact ends_ret (ev e_c ⟨_, rfl, .inl ⟨fun a b hab hb => hA a b hab hb (by omega), rfl⟩⟩)
  obtain ⟨o, h1, d, h2, h3⟩ := key
  exact ⟨d, run_P ⟨o, h1, h2⟩, h3⟩
/-! ### draws -/
theorem v_signs (p : PotS) (n : Nat) (hn : n ≤ 20) : ∃ d p', f__law_signs [.int n] p = some (d, p') ∧ ∃ s : List Int, d = dT s ∧ s.length = n ∧ PM s := by
  refine run_Z ?_
  obtain ⟨s, p2, hs, h2⟩ := lc_each (τ := tgN 2) (own := [2]) (σ := [.pot, .val (.int n), .un]) (α := xBin fSub (xBin fMul (xC (.int 2)) (xFunZ 2 0 f__law_draw (aCons (xC (.int 2)) aNil))) (xC (.int 1))) PyData.int
    (fun x => [.pot, .val (.int n), .val (.int x)]) PyData.int (fun _ y => y = 1 ∨ y = -1) (rng n) p (fun x _ => rfl) (fun x _ p => by
      obtain ⟨k, p', h, h0, h1⟩ := z_draw (σ := [.pot, .val (.int n), .val (.int x)]) (p := p) (i := 0) (m := 2) (ω := aCons (xC (.int 2)) aNil) rfl (a_one e_c) (by decide) (by decide)
      exact ⟨2 * k - 1, p', e_bin (e_bin e_c h (mul_small (by decide))) e_c rfl, by omega⟩)
  exact ends_ret (ev (e_call (a_one (e_L (comp_ev (i_by (a_one (e_var rfl)) (rng_f (by omega))) (by rw [List.length_map, rng_len]; unfold sizeLine; omega) (by rfl) h2))) (tuple_map s _)) ⟨_, _, rfl, s, rfl, by rw [← hs.len, rng_len], hs.right⟩)
theorem shaped_rows (l : List (List Int)) : SeqAt.shaped (.list (l.map dT)) = true := by
  have h1 : PyData.canLayAll0 (l.map dT) = true := by
    induction l with
    | nil => rfl
    | cons x r ih =>
      rw [List.map_cons, PyData.canLayAll0, ih, dT, PyData.canLay0, lay_ints]; rfl
  have h2 : PyData.depthAll (l.map dT) ≤ 1 := by
    induction l with
    | nil => decide
    | cons x r ih =>
      have ih := ih (by
        rw [List.map_cons, PyData.canLayAll0, Bool.and_eq_true] at h1
        exact h1.2)
      rw [List.map_cons, PyData.depthAll, dT, PyData.depth, depth_ints]
      omega
  unfold SeqAt.shaped
  rw [PyData.canLay0, h1, PyData.depth]
  simp
  omega
theorem ne_nil (l : List (List Int)) : fNe (.list (l.map dT)) (.list []) = some (.bool (!l.isEmpty)) := by
  have hs := shaped_rows l
  have h0 := shaped_rows []
  unfold fNe eqD
  have h0 : SeqAt.shaped (.list []) = true := h0
  simp only [hs, h0, Bool.and_self, if_true, Option.map_some]
  cases l <;> simp [PyData.eqv, PyData.eqvAll]
theorem v_mixed (p : PotS) (hl : t.length ≤ 20) : ∃ d p', f__law_mixed [dTs t] p = some (d, p') ∧ ∃ f : List (List Int), d = .list (f.map dT) ∧ f.length = t.length ∧ ∀ r ∈ f, r ∈ t := by
  refine run_Z (ends_seq (ends_parLL (l_call (a_one (e_var rfl)) rfl) (l_disp a_nil (by decide)) (ends_seq ?_)))
  refine ends_while (fun σ _ => ∃ l f : List (List Int), σ = [.pot, .val (dTs t), .own (l.map dT), .own (f.map dT)] ∧ l.length + f.length = t.length ∧ (∀ r ∈ l, r ∈ t) ∧ ∀ r ∈ f, r ∈ t)
    (fun σ _ => match σ with
      | [_, _, .own l, _] => l.length
      | _ => 0) 100000 _ p ⟨t, [], rfl, rfl, fun r h => h, fun r h => by cases h⟩ (by show (t.map dT).length < 100000; rw [List.length_map]; omega) ?_
  rintro σ p ⟨l, f, rfl, h1, h2, h3⟩
  refine ev (t_bor rfl (e_test (e_bin (e_var rfl) (e_L (l_disp a_nil (by decide))) (ne_nil l)))) ⟨fun hb => ?_, fun hb => ?_⟩
  · have hl0 : 0 < l.length := by
      cases l with
      | nil => cases hb
      | cons _ _ => simp
    obtain ⟨k, p1, g1, k0, k1⟩ := z_draw (σ := [.pot, .val (dTs t), .own (l.map dT), .own (f.map dT)]) (p := p) (i := 0) (m := l.length) (ω := aCons (xBor 2 (xCall fLen (aCons (xVar 2) aNil))) aNil) rfl
      (a_one (e_bor rfl (e_call (a_one (e_var rfl)) (by rw [len_list, List.length_map])) rfl)) (by omega) (by omega)
    have hk : k.toNat < l.length := by omega
    refine ends_appP rfl (p_popAt (l := l) (e := dT) g1 rfl k0 k1 (by omega)) rfl (by rw [List.length_map]; unfold sizeLine; omega) ?_
    · refine ⟨_, _, rfl, ⟨l.eraseIdx k.toNat, f ++ [l[k.toNat]], ?_, ?_, fun r hr => h2 r (List.mem_of_mem_eraseIdx hr), fun r hr => ?_⟩, ?_⟩
      · rw [List.map_append]; rfl
      · rw [List.length_eraseIdx, if_pos hk, List.length_append]
        simp
        omega
      · rcases List.mem_append.mp hr with z | z
        · exact h3 r z
        · rw [List.mem_singleton.mp z]; exact h2 _ (List.getElem_mem hk)
      · show ((l.eraseIdx k.toNat).map dT).length < (l.map dT).length
        rw [List.length_map, List.length_map, List.length_eraseIdx, if_pos hk]
        omega
  · have hl0 : l = [] := by
      cases l with
      | nil => rfl
      | cons _ _ => cases hb
    subst hl0
    exact ends_fz rfl (ends_ret (ev (e_var rfl) ⟨_, _, rfl, f, rfl, by simpa using h1, h3⟩))

theorem Tb.two {M : Nat} (h : Tb M t) : Tb (2 * M) (t.map (fun r => r ++ r) ++ t.map (fun r => r ++ r.map fun x => -x)) where
  len := by rw [List.length_append, List.length_map, List.length_map, h.len]; omega
  row := fun r hr => by
    rcases List.mem_append.mp hr with hr | hr
    · obtain ⟨s, hs, rfl⟩ := List.mem_map.mp hr
      rw [List.length_append, h.row s hs]; omega
    · obtain ⟨s, hs, rfl⟩ := List.mem_map.mp hr
      rw [List.length_append, List.length_map, h.row s hs]; omega
  pm := fun r hr x hx => by
    rcases List.mem_append.mp hr with hr | hr
    · obtain ⟨s, hs, rfl⟩ := List.mem_map.mp hr
      rcases List.mem_append.mp hx with hx | hx
      · exact h.pm s hs x hx
      · exact h.pm s hs x hx
    · obtain ⟨s, hs, rfl⟩ := List.mem_map.mp hr
      rcases List.mem_append.mp hx with hx | hx
      · exact h.pm s hs x hx
      · obtain ⟨y, hy, rfl⟩ := List.mem_map.mp hx
        rcases h.pm s hs y hy with e | e <;> rw [e]
        · exact .inr rfl
        · exact .inl rfl
theorem Tb.some {M : Nat} (h : Tb M t) {f : List (List Int)} (hl : f.length = t.length) (hf : ∀ r ∈ f, r ∈ t) : Tb M f :=
  ⟨by rw [hl, h.len], fun r hr => h.row r (hf r hr), fun r hr => h.pm r (hf r hr)⟩
theorem Tb.flip {M : Nat} (h : Tb M t) (hs : s.length = M) (hp : PM s) : Tb M (t.map fun r => zw r s) where
  len := by rw [List.length_map, h.len]
  row := fun r hr => by
    obtain ⟨q, hq, rfl⟩ := List.mem_map.mp hr
    exact zw_len (h.row q hq) hs
  pm := fun r hr => by
    obtain ⟨q, hq, rfl⟩ := List.mem_map.mp hr
    exact zw_pm (h.pm q hq) hp
theorem Tb.put {M : Nat} (h : Tb M t) {r : List Int} {i : Nat} (hi : i < M) (hr : r.length = M) (hp : PM r) : Tb M (t.take i ++ [r] ++ t.drop (i + 1)) where
  len := by rw [List.length_append, List.length_append, List.length_take, List.length_drop, h.len, List.length_singleton]; omega
  row := fun q hq => by
    rcases List.mem_append.mp hq with hq | hq
    · rcases List.mem_append.mp hq with hq | hq
      · exact h.row q (List.mem_of_mem_take hq)
      · rw [List.mem_singleton.mp hq]; exact hr
    · exact h.row q (List.mem_of_mem_drop hq)
  pm := fun q hq => by
    rcases List.mem_append.mp hq with hq | hq
    · rcases List.mem_append.mp hq with hq | hq
      · exact h.pm q (List.mem_of_mem_take hq)
      · rw [List.mem_singleton.mp hq]; exact hp
    · exact h.pm q (List.mem_of_mem_drop hq)
theorem pm_put {r : List Int} {j : Nat} {y : Int} (h : PM r) (hy : y = 1 ∨ y = -1) : PM (r.take j ++ [y] ++ r.drop (j + 1)) := fun x hx => by
  rcases List.mem_append.mp hx with hx | hx
  · rcases List.mem_append.mp hx with hx | hx
    · exact h x (List.mem_of_mem_take hx)
    · rw [List.mem_singleton.mp hx]; exact hy
  · exact h x (List.mem_of_mem_drop hx)
def TabOk (d : D) : Prop := ∃ (N : Nat) (t : List (List Int)), d = dTs t ∧ Tb N t ∧ 0 < N ∧ N ≤ 16
theorem len_dTs (t : List (List Int)) : fLen [dTs t] = some (.int t.length) := by unfold dTs; rw [len_tup, List.length_map]
theorem v_table (p : PotS) (hn0 : 0 < n) (hn : n ≤ 16) : ∃ d p', f__law_table [.int n] p = some (d, p') ∧ TabOk d := by
  refine run_Z ?_
  obtain ⟨k, p1, g1, k0, k1⟩ := z_draw (σ := [.pot, .val (.int n), .un, .un, .un, .un, .un, .un, .un, .un]) (p := p) (i := 0) (m := 2) (ω := aCons (xC (.int 2)) aNil) rfl (a_one e_c) (by decide) (by decide)
  by_cases hk : k = 0
  · refine ends_seq (ends_if_t (e_test (e_bin g1 e_c (eq_t hk))) ?_)
    obtain ⟨t, p2, hs, h2⟩ := lc_each (τ := tgN 2) (own := [2]) (σ := [.pot, .val (.int n), .un, .un, .un, .un, .un, .un, .un, .un]) (α := xFunZ 2 0 f__law_signs (aCons (xVar 1) aNil)) PyData.int
      (fun x => [.pot, .val (.int n), .val (.int x), .un, .un, .un, .un, .un, .un, .un]) dT (fun _ y => y.length = n ∧ PM y) (rng n) p1 (fun x _ => rfl) (fun x _ p => by
        obtain ⟨_, p', h, s, rfl, h1, h2⟩ := v_signs p n (by omega)
        exact ⟨s, p', e_Z rfl (a_one (e_var rfl)) rfl h, h1, h2⟩)
    exact ends_ret (ev (e_call (a_one (e_L (comp_ev (i_by (a_one (e_var rfl)) (rng_f (by omega))) (by rw [List.length_map, rng_len]; unfold sizeLine; omega) (by rfl) h2))) (tuple_map t _))
      ⟨_, _, rfl, n, t, rfl, ⟨by rw [← hs.len, rng_len], fun r hr => (hs.right r hr).1, fun r hr => (hs.right r hr).2⟩, hn0, hn⟩)
  refine ends_seq (ends_if_f (e_test (e_bin g1 e_c (eq_f hk))) (ends_nil ?_))
  show Ends _ _ _ _
  refine ends_seq (ends_set (ev (e_tup (a_one (e_tup (a_one e_c) (sml rfl))) (sml rfl)) ?_))
  refine ends_seq (ends_while (fun σ _ => ∃ (M : Nat) (t : List (List Int)), σ = [.pot, .val (.int n), .un, .val (dTs t), .un, .un, .un, .un, .un, .un] ∧ Tb M t ∧ 0 < M ∧ M ≤ n)
    (fun σ _ => match σ with
      | [_, _, _, .val (.tuple ds), _, _, _, _, _, _] => n - ds.length
      | _ => 0) 100000 _ p1 ⟨1, [[1]], rfl, ⟨rfl, fun r hr => by rw [List.mem_singleton.mp hr]; rfl, fun r hr x hx => by rw [List.mem_singleton.mp hr] at hx; exact .inl (List.mem_singleton.mp hx)⟩, by decide, by omega⟩ (by show n - 1 < 100000; omega) ?_)
  rintro σ p ⟨M, t, rfl, hT, hM, hMn⟩
  by_cases h2 : 2 * (t.length : Int) ≤ n
  · refine ev (e_test (c := true) (e_bin (e_bin e_c (e_call (a_one (e_var rfl)) (len_dTs t)) (mul_small (by decide))) (e_var rfl) (le_t h2))) ⟨fun _ => ?_, fun z => by cases z⟩
    have hTl := hT.len
    have f1 : fTuple [.list (t.map fun r => dT (r ++ r))] = some (.tuple ((t.map fun r => r ++ r).map dT)) := by rw [List.map_map]; rfl
    have f2 : fTuple [.list (t.map fun r => dT (r ++ r.map fun x => -x))] = some (.tuple ((t.map fun r => r ++ r.map fun x => -x).map dT)) := by rw [List.map_map]; rfl
    refine ends_set (ev (e_bin (e_call (a_one (e_L (comp_ev (i_of (e_var rfl) rfl) (by rw [List.length_map]; unfold sizeLine; omega) (by rfl)
      (lc_all (h := fun r => dT (r ++ r)) dT (fun r => [.pot, .val (.int n), .un, .val (dTs t), .val (dT r), .un, .un, .un, .un, .un]) t (fun r _ => rfl) fun r hr => ?_)))) f1)
      (e_call (a_one (e_L (comp_ev (i_of (e_var rfl) rfl) (by rw [List.length_map]; unfold sizeLine; omega) (by rfl)
      (lc_all (h := fun r => dT (r ++ r.map fun x => -x)) dT (fun r => [.pot, .val (.int n), .un, .val (dTs t), .val (dT r), .un, .un, .un, .un, .un]) t (fun r _ => rfl) fun r hr => ?_)))) f2)
      (add_tup (by rw [List.length_map, List.length_map, List.length_map, List.length_map]; unfold sizeLine; omega))) ⟨_, _, rfl, ⟨2 * M, t.map (fun r => r ++ r) ++ t.map (fun r => r ++ r.map fun x => -x), ?_, Tb.two hT, by omega, by omega⟩, ?_⟩)
    · refine e_bin (e_var rfl) (e_var rfl) ?_
      unfold dT
      rw [add_tup (by rw [List.length_map, hT.row r hr]; unfold sizeLine; omega), List.map_append]
    · refine e_bin (e_var rfl) (e_call (a_one (e_L (comp_ev (i_of (e_var rfl) rfl) (by rw [List.length_map, hT.row r hr]; unfold sizeLine; omega) (by rfl)
        (lc_all (h := fun x => .int (-x)) .int (fun x => [.pot, .val (.int n), .un, .val (dTs t), .val (dT r), .val (.int x), .un, .un, .un, .un]) r (fun x _ => rfl) fun x hx => e_un (e_var rfl) rfl)))) (tuple_map _ _)) ?_
      unfold dT
      rw [add_tup (by rw [List.length_map, List.length_map, hT.row r hr]; unfold sizeLine; omega), List.map_append, List.map_map]; rfl
    · unfold dTs
      rw [List.map_append]; rfl
    · show n - (((t.map fun r => r ++ r).map dT) ++ _).length < n - (t.map dT).length
      rw [List.length_append, List.length_map, List.length_map, List.length_map, List.length_map, List.length_map]
      omega
  · refine ev (e_test (c := false) (e_bin (e_bin e_c (e_call (a_one (e_var rfl)) (len_dTs t)) (mul_small (by decide))) (e_var rfl) (le_f h2))) ⟨(fun z => by cases z), fun _ => ?_⟩
    have hTl := hT.len
    obtain ⟨_, p2, g2, f, rfl, hf1, hf2⟩ := v_mixed (t := t) p (by omega)
    refine ends_seq (ends_set (ev (e_call (a_one (e_Z rfl (a_one (e_var rfl)) rfl g2)) (tuple_map f dT)) ?_))
    have hF := Tb.some hT hf1 hf2
    have hFl := hF.len
    obtain ⟨_, p3, g3, s, rfl, hs1, hs2⟩ := v_signs p2 f.length (by omega)
    refine ends_seq (ends_set (ev (e_Z rfl (a_one (e_call (a_one (e_var rfl)) (by rw [len_tup, List.length_map]))) rfl g3) ?_))
    refine ends_seq (ends_set (ev (e_call (a_one (e_L (comp_ev (i_of (e_var rfl) rfl) (by rw [List.length_map]; unfold sizeLine; omega) (by rfl)
      (lc_all (h := fun r => dT (zw r s)) dT (fun r => [.pot, .val (.int n), .un, .val (dTs f), .val (dT r), .un, .val (dT s), .un, .un, .un]) f (fun r _ => rfl) fun r hr => ?_)))) (show fTuple [.list (f.map fun r => dT (zw r s))] = some (dTs (f.map fun r => zw r s)) from by unfold dTs; rw [List.map_map]; rfl)) ?_))
    · refine e_call (a_one (e_L (comp_ev (i_by (a_cons (e_var rfl) (a_one (e_var rfl))) (zip_F r s)) (by rw [List.length_map]; have := zip_len r s; rw [hF.row r hr] at this; unfold sizeLine; omega) (by rfl) ?_))) (tuple_map _ _)
      rw [← map_zw]
      refine lc_all (h := fun p => .int (p.1 * p.2)) pairD (fun q => [.pot, .val (.int n), .un, .val (dTs f), .val (dT r), .un, .val (dT s), .val (.int q.1), .val (.int q.2), .un]) (r.zip s) (fun p _ => rfl) fun q hq => ?_
      exact e_bin (e_var rfl) (e_var rfl) (mul_small (pm_small (hF.pm r hr _ (List.of_mem_zip hq).1)))
    · have hG := Tb.flip hF (by rw [hs1, hFl]) hs2
      have hGl := hG.len
      generalize (f.map fun r => zw r s) = g at *
      refine ends_seq (ends_mono (R := fun o => ∃ g s2 s4 s9 p', o = .nx [.pot, .val (.int n), s2, .val (dTs g), s4, .un, .val (dT s), .un, .un, s9] p' ∧ Tb M g) ?_ ?_)
      · obtain ⟨k, p4, g4, k0, k1⟩ := z_draw (σ := [.pot, .val (.int n), .un, .val (dTs g), .un, .un, .val (dT s), .un, .un, .un]) (p := p3) (i := 0) (m := 3) (ω := aCons (xC (.int 3)) aNil) rfl (a_one e_c) (by decide) (by decide)
        refine ends_if (ev (e_test (e_bin g4 e_c (eq_int _ _))) ⟨fun _ => ?_, fun _ => ends_nil ⟨g, _, _, _, _, rfl, hG⟩⟩)
        obtain ⟨i, p5, g5, i0, i1⟩ := z_draw (σ := [.pot, .val (.int n), .un, .val (dTs g), .un, .un, .val (dT s), .un, .un, .un]) (p := p4) (i := 0) (m := g.length) (ω := aCons (xCall fLen (aCons (xVar 3) aNil)) aNil) rfl (a_one (e_call (a_one (e_var rfl)) (len_dTs g))) (by omega) (by omega)
        obtain ⟨j, p6, g6, j0, j1⟩ := z_draw (σ := [.pot, .val (.int n), .un, .val (dTs g), .un, .un, .val (dT s), .un, .un, .un]) (p := p5) (i := 0) (m := g.length) (ω := aCons (xCall fLen (aCons (xVar 3) aNil)) aNil) rfl (a_one (e_call (a_one (e_var rfl)) (len_dTs g))) (by omega) (by omega)
        obtain ⟨i, rfl⟩ : ∃ m : Nat, i = m := ⟨i.toNat, by omega⟩
        obtain ⟨j, rfl⟩ : ∃ m : Nat, j = m := ⟨j.toNat, by omega⟩
        refine ends_seq (ends_pars g5 g6 ?_)
        have hi : i < g.length := by omega
        have hrm := getD_mem (d := []) hi
        have hrl := hG.row _ hrm
        have hj : j < (g.getD i []).length := by omega
        have e1 : fIx (dTs g) (.int (i : Nat)) = some (dT (g.getD i [])) := dTs_get hi
        generalize hr : g.getD i [] = r at *
        have y := hG.pm r hrm _ (getD_mem (d := 0) hj)
        have a1 : fAdd (.tuple ((r.take j).map .int)) (.tuple [.int (-(r.getD j 0))]) = some (.tuple ((r.take j ++ [-(r.getD j 0)]).map .int)) := by
          rw [add_tup (by rw [List.length_map, List.length_take, List.length_singleton]; unfold sizeLine; omega), List.map_append]; rfl
        have a2 : fAdd (.tuple ((r.take j ++ [-(r.getD j 0)]).map .int)) (.tuple ((r.drop (j + 1)).map .int)) = some (dT (r.take j ++ [-(r.getD j 0)] ++ r.drop (j + 1))) := by
          rw [add_tup (by rw [List.length_map, List.length_append, List.length_take, List.length_map, List.length_drop, List.length_singleton]; unfold sizeLine; omega), ← List.map_append]; rfl
        have c1 : cutD (r.map PyData.int) none (some ((j : Nat) : Int)) = (r.take j).map .int := cut_to PyData.int (k := (j : Int)) (by omega) (by omega)
        have c2 : cutD (r.map PyData.int) (some ((j : Nat) + 1 : Int)) none = (r.drop (j + 1)).map .int := cut_from PyData.int (k := (j : Int) + 1) (by omega) (by omega)
        refine ends_seq (ends_set (ev (e_bin (e_bin (e_slice (e_bin (e_var rfl) (e_var rfl) e1) o_none (o_some (e_var rfl))) (e_tup (a_one (e_un (e_bin (e_bin (e_var rfl) (e_var rfl) e1) (e_var rfl) (dT_get hj)) rfl)) (sml rfl)) (by rw [c1]; exact a1)) (e_slice (e_bin (e_var rfl) (e_var rfl) e1) (o_some (e_bin (e_var rfl) e_c rfl)) o_none) (by rw [c2]; exact a2)) ?_))
        have b1 : fAdd (.tuple ((g.take i).map dT)) (.tuple [dT (r.take j ++ [-(r.getD j 0)] ++ r.drop (j + 1))]) = some (.tuple ((g.take i ++ [r.take j ++ [-(r.getD j 0)] ++ r.drop (j + 1)]).map dT)) := by
          rw [add_tup (by rw [List.length_map, List.length_take, List.length_singleton]; unfold sizeLine; omega), List.map_append]; rfl
        have b2 : fAdd (.tuple ((g.take i ++ [r.take j ++ [-(r.getD j 0)] ++ r.drop (j + 1)]).map dT)) (.tuple ((g.drop (i + 1)).map dT)) = some (dTs (g.take i ++ [r.take j ++ [-(r.getD j 0)] ++ r.drop (j + 1)] ++ g.drop (i + 1))) := by
          rw [add_tup (by rw [List.length_map, List.length_append, List.length_take, List.length_map, List.length_drop, List.length_singleton]; unfold sizeLine; omega), ← List.map_append]; rfl
        have d1 : cutD (g.map dT) none (some ((i : Nat) : Int)) = (g.take i).map dT := cut_to dT (k := (i : Int)) (by omega) (by omega)
        have d2 : cutD (g.map dT) (some ((i : Nat) + 1 : Int)) none = (g.drop (i + 1)).map dT := cut_from dT (k := (i : Int) + 1) (by omega) (by omega)
        refine ends_set (ev (e_bin (e_bin (e_slice (e_var rfl) o_none (o_some (e_var rfl))) (e_tup (a_one (e_var rfl)) (sml rfl)) (by rw [d1]; exact b1)) (e_slice (e_var rfl) (o_some (e_bin (e_var rfl) e_c rfl)) o_none) (by rw [d2]; exact b2)) ?_)
        refine ⟨_, _, _, _, _, rfl, Tb.put hG (by omega) ?_ (pm_put (hG.pm r hrm) ?_)⟩
        · rw [List.length_append, List.length_append, List.length_take, List.length_drop, List.length_singleton]; omega
        · rcases y with e | e <;> rw [e]
          · exact .inr rfl
          · exact .inl rfl
      · rintro _ ⟨g', s2, s4, s9, p', rfl, hG'⟩
        exact ends_ret (ev (e_var rfl) ⟨_, _, rfl, M, g', rfl, hG', hM, by omega⟩)
end Wk
namespace Wk
open PySem L2 FL
variable {n : Nat} {t : List (List Int)} {s : List Int}
def isP : Sl → Bool
  | .own _ => false
  | .pot => false
  | _ => true
theorem plain1 {σ : Sg} {i : Nat} {s : Sl} (h : σ[i]? = some s) (hs : isP s = true) : plainAt σ [i] = true := by
  unfold plainAt
  rw [List.all_cons, List.all_nil, h]
  cases s <;> first | rfl | exact absurd hs Bool.false_ne_true
theorem plain2 {σ : Sg} {i j : Nat} {s u : Sl} (h : σ[i]? = some s) (hs : isP s = true) (h2 : σ[j]? = some u) (hu : isP u = true) : plainAt σ [i, j] = true := by
  unfold plainAt
  rw [List.all_cons, List.all_cons, List.all_nil, h, h2]
  cases s <;> cases u <;> first | rfl | exact absurd hs Bool.false_ne_true | exact absurd hu Bool.false_ne_true
theorem rep2 {d : D} {n k : Nat} (h : Rp d n k) (hn : n ≤ 1000000) (hk : k ≤ 60) : fRepr [.list [d, d]] = some (.str (PyData.list [d, d]).shown) := by
  refine (Rp.list (m := 2) (n := n) (k := k) (ds := [d, d]) (fun x hx => ?_) (sml rfl)).repr (by unfold sizeLine; omega) (by omega)
  simp only [List.mem_cons, List.not_mem_nil, or_false, or_self] at hx
  rw [hx]; exact h
theorem most_ge {x : Int} {ns : List Int} (h : x ∈ ns) : x ≤ mostOf ns := by
  have go : ∀ (r : List Int) (a : Int), a ≤ r.foldl max a ∧ ∀ y ∈ r, y ≤ r.foldl max a := by
    intro r
    induction r with
    | nil => intro a; exact ⟨Int.le_refl _, fun y h => by cases h⟩
    | cons z r ih =>
      intro a
      rw [List.foldl_cons]
      obtain ⟨h1, h2⟩ := ih (max a z)
      refine ⟨by omega, fun y hy => ?_⟩
      rcases List.mem_cons.mp hy with e | hy
      · rw [e]; omega
      · exact h2 y hy
  cases ns with
  | nil => cases h
  | cons a r =>
    rcases List.mem_cons.mp h with e | h
    · rw [e]; exact (go r a).1
    · exact (go r a).2 x h
theorem sqs_bd : ∀ (l : List Int), (∀ x ∈ l, -16 ≤ x ∧ x ≤ 16) → 0 ≤ sqs l ∧ sqs l ≤ 256 * l.length
  | [], _ => ⟨by decide, by decide⟩
  | x :: r, h => by
    obtain ⟨h1, h2⟩ := sqs_bd r fun y hy => h y (List.mem_cons_of_mem _ hy)
    have hx := h x List.mem_cons_self
    have e : sqs (x :: r) = x * x + sqs r := by unfold sqs; rw [List.map_cons, List.sum_cons]
    have e1 := sq_nonneg x
    have e2 : x * x ≤ 256 := by
      have : x * x ≤ 16 * 16 := by
        rw [← Int.natAbs_mul_self' x]
        have : x.natAbs ≤ 16 := by omega
        have h2 := Nat.mul_le_mul this this
        omega
      omega
    rw [e, List.length_cons]
    push_cast
    omega
theorem Tb.rp (h : Tb n t) (hn : n ≤ 16) : Rp (dTs t) 20000 2 :=
  (Rp.lots (m := 16) (q := 16) (fun r hr => ⟨by rw [h.row r hr]; exact hn, fun x hx => by rcases h.pm r hr x hx with e | e <;> rw [e] <;> decide⟩) (by rw [h.len]; exact hn)).mono (by decide) (by decide)
theorem rp_lots (h : Tb n t) (hn : n ≤ 16) : Rp (dTs (t.map oneL)) 20000 2 := by
  refine (Rp.lots (m := 16) (q := 16) (fun r hr => ?_) (by rw [List.length_map, h.len]; exact hn)).mono (by decide) (by decide)
  obtain ⟨r, hr2, rfl⟩ := List.mem_map.mp hr
  have hl : (idxL 0 r).length ≤ 16 := by rw [idxL_len, h.row r hr2]; exact hn
  have hf := List.length_filter_le (fun p : Int × Int => p.2 == 1) (idxL 0 r)
  refine ⟨by unfold oneL; rw [List.length_map]; omega, fun x hx => ?_⟩
  obtain ⟨p, hp, rfl⟩ := List.mem_map.mp hx
  have := idxL_bd 0 r p (List.mem_filter.mp hp).1
  rw [h.row r hr2] at this
  omega
theorem sqs_S (h : Tb n t) (hs : s.length = n) : sqs (rowsOf t s) = S n fun i => S n (fun j => en t i j * s.getD j 0) * S n (fun j => en t i j * s.getD j 0) := by
  unfold sqs rowsOf
  rw [List.map_map, sum_S, List.length_map, h.len]
  refine S_congr fun i hi => ?_
  have hi2 : i < t.length := by rw [h.len]; exact hi
  rw [map_getD (d := []) hi2]
  show dot _ s * dot _ s = _
  rw [dot_S (h.row _ (getD_mem hi2)) hs]; rfl
theorem sq_eq (h : Tb n t) (ha : Ap t) (hs : s.length = n) (hp : PM s) : sqs (rowsOf t s) = n * n := by
  rw [sqs_S h hs]
  refine (h.hd ha).squares fun k hk => ?_
  rcases hp _ (getD_mem (d := 0) (by rw [hs]; exact hk)) with e | e <;> rw [e] <;> rfl
theorem worst_ge (h : Tb n t) (hn : 0 < n) (ha : Ap t) (hs : s.length = n) (hp : PM s) : (n : Int) ≤ mostOf (absL (rowsOf t s)) * mostOf (absL (rowsOf t s)) := by
  have e := sq_eq h ha hs hp
  generalize hw : mostOf (absL (rowsOf t s)) = w
  have hx : ∀ x ∈ rowsOf t s, x * x ≤ w * w := fun x hx => by
    have h1 : ((x.natAbs : Nat) : Int) ≤ w := by
      rw [← hw]; exact most_ge (List.mem_map.mpr ⟨x, hx, rfl⟩)
    rw [← Int.natAbs_mul_self' x]
    exact Int.mul_le_mul h1 h1 (by omega) (by omega)
  have hl : ∀ l : List Int, (∀ x ∈ l, x * x ≤ w * w) → sqs l ≤ l.length * (w * w) := by
    intro l
    induction l with
    | nil => intro _; unfold sqs; simp
    | cons x r ih =>
      intro h
      have h1 := ih fun y hy => h y (List.mem_cons_of_mem _ hy)
      have h2 := h x List.mem_cons_self
      have e : sqs (x :: r) = x * x + sqs r := by unfold sqs; rw [List.map_cons, List.sum_cons]
      rw [e, List.length_cons]
      push_cast
      rw [Int.add_mul]
      omega
  have h1 := hl _ hx
  rw [e] at h1
  have hrl : (rowsOf t s).length = n := by unfold rowsOf; rw [List.length_map, h.len]
  rw [hrl] at h1
  exact Int.le_of_mul_le_mul_left h1 (by omega)
theorem and3 (h : Tb n t) (hn : n ≤ 16) (h2 : 2 < n) (ha : Ap t) : fAnd (.int n) (.int 3) = some (.int 0) := by
  obtain ⟨m, hm⟩ := (h.hd ha).four h2
  have : n = 4 ∨ n = 8 ∨ n = 12 ∨ n = 16 := by omega
  rcases this with e | e | e | e <;> subst e <;> rfl
theorem bools_false {κ : Type} : ∀ l : List κ, boolsOf (l.map fun _ => PyData.bool false) = some (l.map fun _ => false)
  | [] => rfl
  | _ :: r => by
    rw [List.map_cons]
    unfold boolsOf
    rw [bools_false r]; rfl
theorem any_false {κ : Type} (l : List κ) : fAny [.list (l.map fun _ => PyData.bool false)] = some (.bool false) := by
  show (boolsOf _).map _ = _
  rw [bools_false]
  show some (PyData.bool _) = _
  congr 2
  induction l with
  | nil => rfl
  | cons _ r ih => rw [List.map_cons, List.any_cons, ih]; rfl
theorem v_lapart' (h : Tb n t) (hn : n ≤ 16) : ∃ d b, f__law_apart [dTs t] = some d ∧ fIs d .none = some (.bool b) ∧ (b = true → Ap t) := by
  obtain ⟨d, h1, h2⟩ := v_lapart h hn
  rcases h2 with ⟨ha, rfl⟩ | ⟨ha, hd⟩
  · exact ⟨_, true, h1, rfl, fun _ => ha⟩
  · refine ⟨d, false, h1, ?_, fun z => by cases z⟩
    cases d <;> first | rfl | exact absurd rfl hd
theorem v_apart' (h : Tb n t) (hn : n ≤ 16) (ha : Ap t) : f_apart_fault [dTs t] = some .none := by
  obtain ⟨d, h1, h2⟩ := v_apart h hn
  rcases h2 with ⟨_, rfl⟩ | ⟨hn, _⟩
  · exact h1
  · exact absurd ha hn

theorem law_ends (p : PotS) : Ends s_law (.un :: .pot :: List.replicate 17 .un) p fun o => ∃ p', o = .rt (.bool true) p' := by
  unfold s_law
  refine ends_seq (ends_for (fun _ σ _ => ∃ s2 s3 s4 s5 s6 s7 s8 s9 s10 s11 s14 s15 s17 s18, isP s9 = true ∧ isP s11 = true ∧ σ = [.un, .pot, s2, s3, s4, s5, s6, s7, s8, s9, s10, s11, .un, .un, s14, s15, .un, s17, s18])
    (i_by (a_one e_c) (rng_fi (by decide) (by decide))) ⟨_, _, _, _, _, _, _, _, _, _, _, _, _, _, rfl, rfl, rfl⟩ ?_ ?_)
  rotate_left
  · rintro σ p ⟨_, _, _, _, _, _, _, _, _, _, _, _, _, _, _, _, rfl⟩
    exact ends_ret (ev e_c ⟨p, rfl⟩)
  rintro i d σ p hi ⟨s2, s3, s4, s5, s6, s7, s8, s9, s10, s11, s14, s15, s17, s18, q9, q11, rfl⟩
  rw [List.getElem?_map] at hi
  obtain ⟨z, _, rfl⟩ := mpd hi
  refine ⟨_, rfl, ?_⟩
  -- the table
  obtain ⟨N0, p1, h1, hN0, hN1⟩ : ∃ (N0 : Nat) (p1 : PotS), xIf (xAnd (xTest (xBin fEq (xVar 2) (xC (.int 0)))) (xTest (xBin fEq (xFunZ 2 1 f__law_draw (aCons (xC (.int 9)) aNil)) (xC (.int 0))))) (xC (.int 16)) (xBin fAdd (xC (.int 1)) (xFunZ 2 1 f__law_draw (aCons (xC (.int 8)) aNil))) [.un, .pot, .val (.int z), s3, s4, s5, s6, s7, s8, s9, s10, s11, .un, .un, s14, s15, .un, s17, s18] p = some (.int N0, p1) ∧ 0 < N0 ∧ N0 ≤ 16 := by
    have e8 : ∀ q : PotS, ∃ (N0 : Nat) (p1 : PotS), xBin fAdd (xC (.int 1)) (xFunZ 2 1 f__law_draw (aCons (xC (.int 8)) aNil)) [.un, .pot, .val (.int z), s3, s4, s5, s6, s7, s8, s9, s10, s11, .un, .un, s14, s15, .un, s17, s18] q = some (.int N0, p1) ∧ 0 < N0 ∧ N0 ≤ 16 := fun q => by
      obtain ⟨k, p', h, k0, k1⟩ := z_draw (σ := [.un, .pot, .val (.int z), s3, s4, s5, s6, s7, s8, s9, s10, s11, .un, .un, s14, s15, .un, s17, s18]) (p := q) (i := 1) (m := 8) (ω := aCons (xC (.int 8)) aNil) rfl (a_one e_c) (by decide) (by decide)
      have e := e_bin (α := xC (.int 1)) (p := q) e_c h (show fAdd (.int 1) (.int k) = some (.int (1 + k)) from rfl)
      refine ⟨(1 + k).toNat, p', ?_, by omega, by omega⟩
      rw [show (((1 + k).toNat : Nat) : Int) = 1 + k by omega]
      exact e
    by_cases hz : z = 0
    · obtain ⟨k, p', h, _⟩ := z_draw (σ := [.un, .pot, .val (.int z), s3, s4, s5, s6, s7, s8, s9, s10, s11, .un, .un, s14, s15, .un, s17, s18]) (p := p) (i := 1) (m := 9) (ω := aCons (xC (.int 9)) aNil) rfl (a_one e_c) (by decide) (by decide)
      by_cases hk : k = 0
      · exact ⟨16, p', e_if_t (e_and_t (e_test (e_bin (e_var rfl) e_c (eq_t hz))) (e_test (e_bin h e_c (eq_t hk)))) e_c, by decide, by decide⟩
      · obtain ⟨N0, p1, g, g1⟩ := e8 p'
        exact ⟨N0, p1, e_if_f (e_and_t (e_test (e_bin (e_var rfl) e_c (eq_t hz))) (e_test (e_bin h e_c (eq_f hk)))) g, g1⟩
    · obtain ⟨N0, p1, g, g1⟩ := e8 p
      exact ⟨N0, p1, e_if_f (e_and_f (e_test (e_bin (e_var rfl) e_c (eq_f hz)))) g, g1⟩
  obtain ⟨_, p2, h2, n, t, rfl, hT, hn0, hn⟩ := v_table p1 hN0 hN1
  refine ends_seq (ends_set (ev (e_Z rfl (a_one h1) rfl h2) ?_))
  have hTl := hT.len
  obtain ⟨_, p3, h3, s, rfl, hs1, hs2⟩ := v_signs p2 t.length (by omega)
  have hs : s.length = n := by omega
  refine ends_seq (ends_pars (e_call (a_one (e_var rfl)) (len_dTs t)) (e_Z rfl (a_one (e_call (a_one (e_var rfl)) (len_dTs t))) rfl h3) ?_)
  rw [hTl]
  -- kept, is_apart
  have hkR : fRepr [.list [dTs t, dT s]] = some (.str (PyData.list [dTs t, dT s]).shown) := by
    refine (Rp.list (m := 2) (n := 20000) (k := 2) (ds := [dTs t, dT s]) (fun x hx => ?_) (sml rfl)).repr (by decide) (by decide)
    simp only [List.mem_cons, List.not_mem_nil, or_false] at hx
    rcases hx with rfl | rfl
    · exact Tb.rp hT hn
    · exact (Rp.ints (m := 16) (fun x hx => by rcases hs2 x hx with e | e <;> rw [e] <;> decide) (by omega)).mono (by decide) (by decide)
  obtain ⟨da, b, ha1, ha2, hb⟩ := v_lapart' hT hn
  refine ends_seq (ends_pars (e_call (a_one (e_L (l_disp (a_cons (e_var rfl) (a_one (e_var rfl))) (sml rfl)))) hkR) (e_bin (e_call (a_one (e_var rfl)) (len_is rfl ha1)) e_c ha2) ?_)
  -- squares
  have hbd := dot_bd hT hn hs hs2
  have hrl : (rowsOf t s).length = n := by unfold rowsOf; rw [List.length_map, hTl]
  refine ends_seq (ends_set (ev (d := .int (sqs (rowsOf t s))) (p' := p3) (e_call (a_one (e_L (comp_ev (i_of (e_call (a_cons (e_var rfl) (a_one (e_var rfl))) (len_is rfl (v_lrows hT hn hs))) rfl) (by rw [List.length_map, hrl]; unfold sizeLine; omega) (plain1 rfl q9)
    (lc_all (h := fun x => .int (x * x)) .int (fun x => [.un, .pot, .val (.int z), .val (dTs t), .val (.int n), .val (dT s), .val (.str (PyData.list [dTs t, dT s]).shown), .val (.bool b), s8, .val (.int x), s10, s11, .un, .un, s14, s15, .un, s17, s18]) (rowsOf t s) (fun x _ => rfl) fun x hx => e_bin (e_var rfl) (e_var rfl) (mul_small (by have := hbd x hx; omega)))))) (by rw [map_sq, sum_intsL]; rfl)) ?_))
  have hsq := sqs_bd _ hbd
  rw [hrl] at hsq
  have hR1 := rep2 (Rp.int (i := sqs (rowsOf t s)) (by omega)) (by decide) (by decide)
  refine ends_seq (ends_if_f (p' := p3) ?_ (ends_nil ?_))
  · exact e_test (e_bin (e_call (a_one (e_L (l_disp (a_cons (e_call (a_cons (e_var rfl) (a_one (e_var rfl))) (len_is rfl (v_tsq hT hn hs hs2))) (a_one (e_call (a_cons (e_var rfl) (a_one (e_var rfl))) (kw_is rfl rfl rfl (v_tsq hT hn hs hs2))))) (sml rfl)))) hR1) (e_call (a_one (e_L (l_disp (a_cons (e_var rfl) (a_one (e_var rfl))) (sml rfl)))) hR1) (ne_self _))
  show Ends _ _ _ _
  -- rows
  have h0m := getD_mem (d := []) (show 0 < t.length by omega)
  refine ends_seq (ends_setL (ev (l_disp a_nil (by decide)) ?_))
  refine ends_seq (ends_for (fun k σ q => q = p3 ∧ ∃ s9 s11, isP s9 = true ∧ isP s11 = true ∧ σ = [.un, .pot, .val (.int z), .val (dTs t), .val (.int n), .val (dT s), .val (.str (PyData.list [dTs t, dT s]).shown), .val (.bool b), .val (.int (sqs (rowsOf t s))), s9, .own (((t.take k).map fun r => nrow r (t.getD 0 [])).map dT), s11, .un, .un, s14, s15, .un, s17, s18])
    (i_of (e_var rfl) rfl) ⟨rfl, s9, s11, q9, q11, rfl⟩ ?_ ?_)
  · rintro k d σ q hk ⟨rfl, s9, s11, q9, q11, rfl⟩
    obtain ⟨r, hr, rfl⟩ := mpd (by rw [← List.getElem?_map]; exact hk)
    have hrm : r ∈ t := List.mem_of_getElem? hr
    generalize hhd : t.getD 0 [] = hd at *
    have hl := zw_len (hT.row r hrm) (hT.row hd h0m)
    have hp := zw_pm (hT.pm r hrm) (hT.pm hd h0m)
    refine ⟨_, rfl, ?_⟩
    refine ends_seq (ends_set (ev (d := .list ((zw r hd).map .int)) (p' := q) (e_L (comp_ev (i_by (a_cons (e_var rfl) (a_one (e_bin (e_var rfl) e_c (dTs_get (k := 0) (by omega))))) (by rw [hhd]; exact zip_F r hd)) (by rw [List.length_map]; have := zip_len r hd; rw [hT.row r hrm] at this; unfold sizeLine; omega) (by rfl) ?_)) ?_))
    · rw [← map_zw]
      refine lc_all (h := fun p => .int (p.1 * p.2)) pairD (fun w => [.un, .pot, .val (.int z), .val (dTs t), .val (.int n), .val (dT s), .val (.str (PyData.list [dTs t, dT s]).shown), .val (.bool b), .val (.int (sqs (rowsOf t s))), s9, .own (((t.take k).map fun r => nrow r hd).map dT), .val (dT r), .val (.int w.1), .val (.int w.2), s14, s15, .un, s17, s18]) (r.zip hd) (fun p _ => rfl) fun w hw => ?_
      exact e_bin (e_var rfl) (e_var rfl) (mul_small (pm_small (hT.pm r hrm _ (List.of_mem_zip hw).1)))
    · refine ends_app (d := dT (nrow r hd)) (p' := q) (e_call (a_one (e_L (comp_ev (i_of (e_var rfl) rfl) (by rw [List.length_map]; unfold zw; rw [hl]; unfold sizeLine; omega) (by rfl) (es := (nrow r hd).map .int) (p2 := q) ?_))) (tuple_map _ _)) rfl (by rw [List.length_map, List.length_map, List.length_take]; unfold sizeLine; omega) ⟨_, _, rfl, rfl, .val (.list ((zw r hd).map .int)), .val (dT r), rfl, rfl, ?_⟩
      · rw [← map_nrow]
        refine lc_all (h := fun x => .int (x * (zw r hd).getD 0 0)) .int (fun x => [.un, .pot, .val (.int z), .val (dTs t), .val (.int n), .val (dT s), .val (.str (PyData.list [dTs t, dT s]).shown), .val (.bool b), .val (.int (sqs (rowsOf t s))), .val (.list ((zw r hd).map .int)), .own (((t.take k).map fun r => nrow r hd).map dT), .val (dT r), .val (.int x), .un, s14, s15, .un, s17, s18]) (zw r hd) (fun x _ => rfl) fun x hx => ?_
        exact e_bin (e_var rfl) (e_bin (e_var rfl) e_c (L_get (k := 0) (by unfold zw; rw [hl]; exact hn0))) (mul_small (pm_small (hp x hx)))
      · have : ((t.take (k + 1)).map fun r => nrow r hd).map dT = ((t.take k).map fun r => nrow r hd).map dT ++ [dT (nrow r hd)] := by
          rw [List.take_add_one, hr, List.map_append, List.map_append]; rfl
        rw [this]; rfl
  rintro σ q ⟨rfl, s9, s11, q9, q11, rfl⟩
  rw [List.length_map, List.take_length]
  refine ends_seq (ends_fz rfl (ends_set (ev (e_call (a_one (e_var rfl)) (show fTuple [.list ((t.map fun r => nrow r (t.getD 0 [])).map dT)] = some (dTs (nrm t)) from rfl)) ?_)))
  have hM := hT.nrm hn0
  have hR2 := rep2 (Tb.rp hM hn) (by decide) (by decide)
  refine ends_seq (ends_if_f (p' := q) ?_ (ends_nil ?_))
  · exact e_test (e_bin (e_call (a_one (e_L (l_disp (a_cons (e_call (a_one (e_var rfl)) (len_is rfl (v_norm hT hn hn0))) (a_one (e_call (a_one (e_var rfl)) (kw_is rfl rfl rfl (v_norm hT hn hn0))))) (sml rfl)))) hR2) (e_call (a_one (e_L (l_disp (a_cons (e_var rfl) (a_one (e_var rfl))) (sml rfl)))) hR2) (ne_self _))
  show Ends _ _ _ _
  -- lots
  generalize hRW : ((t.map fun r => nrow r (t.getD 0 [])).map dT) = RW
  refine ends_seq (ends_set (ev (d := dTs (t.map oneL)) (p' := q) (e_call (a_one (e_L (comp_ev (i_of (e_var rfl) rfl) (by rw [List.length_map, hTl]; unfold sizeLine; omega) (plain1 rfl q11)
    (lc_all (h := fun r => dT (oneL r)) dT (fun r => [.un, .pot, .val (.int z), .val (dTs t), .val (.int n), .val (dT s), .val (.str (PyData.list [dTs t, dT s]).shown), .val (.bool b), .val (.int (sqs (rowsOf t s))), s9, .val (.list RW), .val (dT r), .un, .un, .val (dTs (nrm t)), s15, .un, s17, s18]) t (fun r _ => rfl) fun r hr => ?_)))) (by unfold dTs; rw [List.map_map]; rfl)) ?_))
  · refine e_call (a_one (e_L (comp_ev (i_by (a_one (e_var rfl)) (enum_F r)) (by rw [List.length_map, idxL_len, hT.row r hr]; unfold sizeLine; omega) (plain2 rfl rfl rfl q9) ?_))) (tuple_map _ _)
    rw [← map_one]
    exact lc_map pairD (fun w => [.un, .pot, .val (.int z), .val (dTs t), .val (.int n), .val (dT s), .val (.str (PyData.list [dTs t, dT s]).shown), .val (.bool b), .val (.int (sqs (rowsOf t s))), .val (.int w.2), .val (.list RW), .val (dT r), .un, .un, .val (dTs (nrm t)), s15, .val (.int w.1), s17, s18]) (fun p => p.2 == 1) (fun p => .int p.1) (idxL 0 r) (fun p _ => rfl) (fun p _ => e_test (e_bin (e_var rfl) e_c (eq_int _ _))) fun p _ _ => e_var rfl
  have hR3 := rep2 (rp_lots hT hn) (by decide) (by decide)
  refine ends_seq (ends_if_f (p' := q) ?_ (ends_nil ?_))
  · exact e_test (e_bin (e_call (a_one (e_L (l_disp (a_cons (e_call (a_one (e_var rfl)) (len_is rfl (v_lots hT hn))) (a_one (e_call (a_one (e_var rfl)) (kw_is rfl rfl rfl (v_lots hT hn))))) (sml rfl)))) hR3) (e_call (a_one (e_L (l_disp (a_cons (e_var rfl) (a_one (e_var rfl))) (sml rfl)))) hR3) (ne_self _))
  show Ends _ _ _ _
  -- turned
  refine ends_seq (ends_set (ev (d := dTs (tr n t)) (p' := q) (e_call (a_one (e_L (comp_ev (i_by (a_one (e_var rfl)) (rng_f (by omega))) (by rw [List.length_map, rng_len]; unfold sizeLine; omega) (by rfl)
    (lc_all (h := fun j => dT (t.map fun r => r.getD j.toNat 0)) .int (fun j => [.un, .pot, .val (.int z), .val (dTs t), .val (.int n), .val (dT s), .val (.str (PyData.list [dTs t, dT s]).shown), .val (.bool b), .val (.int (sqs (rowsOf t s))), s9, .val (.list RW), s11, .un, .un, .val (dTs (nrm t)), .val (dTs (t.map oneL)), .val (.int j), s17, s18]) (rng n) (fun r _ => rfl) fun j hj => ?_)))) (by unfold dTs tr; rw [List.map_map]; rfl)) ?_))
  · have hj := rng_mem.mp hj
    refine e_call (a_one (e_L (comp_ev (i_of (e_var rfl) rfl) (by rw [List.length_map, hTl]; unfold sizeLine; omega) (plain1 rfl q11)
      (lc_all (h := fun r => .int (r.getD j.toNat 0)) dT (fun r => [.un, .pot, .val (.int z), .val (dTs t), .val (.int n), .val (dT s), .val (.str (PyData.list [dTs t, dT s]).shown), .val (.bool b), .val (.int (sqs (rowsOf t s))), s9, .val (.list RW), .val (dT r), .un, .un, .val (dTs (nrm t)), .val (dTs (t.map oneL)), .val (.int j), s17, s18]) t (fun r _ => rfl) fun r hr => ?_)))) (by unfold dT; rw [List.map_map]; rfl)
    have := dT_get (r := r) (k := j.toNat) (by rw [hT.row r hr]; omega)
    rw [show ((j.toNat : Nat) : Int) = j by omega] at this
    exact e_bin (e_var rfl) (e_var rfl) this
  -- where the rows stand apart
  refine ends_seq (ends_mono (R := fun o => ∃ u11 u18, isP u11 = true ∧ o = .nx [.un, .pot, .val (.int z), .val (dTs t), .val (.int n), .val (dT s), .val (.str (PyData.list [dTs t, dT s]).shown), .val (.bool b), .val (.int (sqs (rowsOf t s))), s9, .val (.list RW), u11, .un, .un, .val (dTs (nrm t)), .val (dTs (t.map oneL)), .un, .val (dTs (tr n t)), u18] q) ?_ ?_)
  · refine ends_if (ev (e_test (e_var rfl)) ⟨fun hbt => ?_, fun _ => ends_nil ⟨_, _, q11, rfl⟩⟩)
    have hA := hb hbt
    have hE := sq_eq hT hA hs hs2
    have hW := worst_ge hT hn0 hA hs hs2
    refine ends_seq (ends_set (ev (e_call (a_cons (e_var rfl) (a_one (e_var rfl))) (len_is rfl (v_tworst hT hn hn0 hs))) ?_))
    have hab : ∀ x ∈ absL (rowsOf t s), 0 ≤ x ∧ x ≤ 16 := fun x hx => by
      obtain ⟨y, hy, rfl⟩ := List.mem_map.mp hx
      have := hbd y hy
      omega
    have hwb := most_bd (ns := absL (rowsOf t s)) (by intro e; have := congrArg List.length e; unfold absL at this; rw [List.length_map, hrl] at this; simp at this; omega) hab
    generalize mostOf (absL (rowsOf t s)) = w at *
    refine ends_seq (ends_if_f (p' := q) ?_ (ends_nil ?_))
    · refine e_or_f (p1 := q) (e_test (e_bin (e_var rfl) (e_bin (e_var rfl) (e_var rfl) (mul_small (by omega))) (ne_f hE))) ?_
      refine e_or_f (p1 := q) (e_test (e_bin (e_bin (e_var rfl) (e_var rfl) (mul_small (by omega))) (e_var rfl) (lt_f (by omega)))) ?_
      by_cases h2 : 2 < n
      · exact e_and_t (p1 := q) (e_test (e_bin (e_var rfl) e_c (gt_t (by omega)))) (e_test (c := false) (e_bin (e_bin (e_var rfl) e_c (and3 hT hn h2 hA)) e_c (ne_f (Eq.refl (0 : Int)))))
      · exact e_and_f (e_test (e_bin (e_var rfl) e_c (gt_f (by omega))))
    show Ends _ _ _ _
    refine ends_seq (ends_if_f (p' := q) ?_ (ends_nil ?_))
    · exact e_or_f (p1 := q) (e_test (e_bin (e_call (a_one (e_var rfl)) (len_is rfl (v_apart' hT.tr hn (hT.apTr hA)))) e_c rfl)) (e_test (e_bin (e_call (a_one (e_var rfl)) (len_is rfl (v_apart' hM hn (hT.apNrm hn0 hA)))) e_c rfl))
    show Ends _ _ _ _
    refine ends_if_f (p' := q) ?_ (ends_nil ⟨_, _, q11, rfl⟩)
    have hc : cutD ((nrm t).map dT) (some 1) none = ((nrm t).tail).map dT := by
      rw [cut_from dT (k := 1) (by decide) (by rw [hM.len]; omega)]
      rw [show Int.toNat 1 = 1 from rfl, List.drop_one]
    have hz := hT.nrmSum hn0 hA
    refine e_test (e_call (a_one (e_L (comp_ev (i_of (e_slice (e_var rfl) (o_some e_c) o_none) (by rw [hc]; rfl)) (by rw [List.length_map, List.length_tail, hM.len]; unfold sizeLine; omega) (plain1 rfl q11)
      (lc_all (h := fun _ => .bool false) dT (fun r => [.un, .pot, .val (.int z), .val (dTs t), .val (.int n), .val (dT s), .val (.str (PyData.list [dTs t, dT s]).shown), .val (.bool b), .val (.int (sqs (rowsOf t s))), s9, .val (.list RW), .val (dT r), .un, .un, .val (dTs (nrm t)), .val (dTs (t.map oneL)), .un, .val (dTs (tr n t)), .val (.int w)]) ((nrm t).tail) (fun r _ => rfl) fun r hr => ?_)))) (any_false _))
    exact e_bin (e_call (a_one (e_var rfl)) (sum_ints r)) e_c (ne_f (hz r hr))
  · rintro _ ⟨u11, u18, hu, rfl⟩
    refine ends_if_f (p' := q) (e_test (e_bin (e_call (a_one (e_L (l_disp (a_cons (e_var rfl) (a_one (e_var rfl))) (sml rfl)))) hkR) (e_var rfl) (ne_self _))) (ends_nil ⟨_, _, rfl, _, _, _, _, _, _, _, _, _, _, _, _, _, _, q9, hu, rfl⟩)
theorem law_all (p : PotS) : ∃ p', s_law (.un :: .pot :: List.replicate 17 .un) p = some (.rt (.bool true) p') := by
  obtain ⟨o, h, p', rfl⟩ := law_ends p
  exact ⟨p', h⟩
end Wk

namespace Wk
open PySem PySem.Spec PyProof.Rows L2 FL
theorem law_F {P : Program} {w : World} {K : PySem.W.Frag} {mg : Str → Option Value} (T : Txt K mg) (fa : Addr) (base : Heap) (cd : Value) (s : Shared) (H : Hp) (a : Addr) (ns : List Int) (hlen : ns.length ≤ 63) (hS : SqL K H a (ns.map V.int))
    (hr : Room 3 (callerA.deeper (envOfC "law" (defScope st_law) s.heap.objs.size fa cd))) :
    ∃ t, PSs (cx P w K mg base ["script", "pot", "turn", "table", "n", "signs", "kept", "is_apart", "squares", "own", "rows", "row", "a", "b", "due", "lots", "j", "turned", "worst"] "law" (defScope st_law) fa cd callerA [] s H E0) (defBody st_law) t ∧ t { nx := fun _ _ => False, rt := fun v _ => v = .bl true } (L2.start ["script", "pot", "turn", "table", "n", "signs", "kept", "is_apart", "squares", "own", "rows", "row", "a", "b", "due", "lots", "j", "turned", "worst"] [.ref a]) H := by
  obtain ⟨t, h1, h2⟩ := (ok_law (P := P) (w := w) (base := base) T hr rfl).ex
  exact ⟨_, pss_cons (ps_set (i := 1) sc_law.nd rfl (by first | exact .inl rfl | exact .inr rfl) (pe_call (ok__law_pot T) (hr.mono (by decide)) rfl T.m__law_pot T.F__law_pot.kp T.b__law_pot .nil pass0 (pa_cons (pv 0) pa_nil))) (h1 _ (fam_self sc_law.nd)),
    ⟨_, rfl, a, ns, rfl, hS, hlen, fun pa ga H' p _ _ _ hok => (law_all p).elim fun p' e => law_rest (m := 17) h2 hok rfl rfl e⟩⟩
theorem law_of {P : Program} {w : World} {K : PySem.W.Frag} {mg : Str → Option Value} {fa : Addr} (h : ∃ fd : FuncData, (∀ (s : Shared) (v : Value), BindsTo s fd ⟨[v], []⟩ [("script", v)]) ∧ Fun K "law" "law" st_law fa fd ∧ Nonempty (Txt K mg)) :
    ∃ fd : FuncData, (∀ (s : Shared) (u : Value), BindsTo s fd ⟨[u], []⟩ [("script", u)]) ∧ Fun K "law" "law" st_law fa fd ∧
        ∀ (base : Heap) (cd : Value) (s : Shared) (H : Hp) (a : Addr) (ns : List Int), K.In base → base.Ns mainGlobals mg → ns.length ≤ 63 → (∀ z ∈ ns, Builtin.Int.intBits z ≤ 1048576) → Only H → SqL K H a (ns.map V.int) →
          Room 3 (callerA.deeper (envOfC "law" (defScope st_law) s.heap.objs.size fa cd)) →
          ∃ t, PSs (cx P w K mg base ["script", "pot", "turn", "table", "n", "signs", "kept", "is_apart", "squares", "own", "rows", "row", "a", "b", "due", "lots", "j", "turned", "worst"] "law" (defScope st_law) fa cd callerA [] s H E0) (defBody st_law) t ∧ t { nx := fun _ _ => False, rt := fun v _ => v = .bl true } (L2.start ["script", "pot", "turn", "table", "n", "signs", "kept", "is_apart", "squares", "own", "rows", "row", "a", "b", "due", "lots", "j", "turned", "worst"] [.ref a]) H := by
  obtain ⟨fd, h1, h2, ⟨T⟩⟩ := h
  exact ⟨fd, h1, h2, fun base cd s H a ns _ _ hl _ _ hS hr => law_F T fa base cd s H a ns hl hS hr⟩
end Wk

open PySem PySem.W PyProof.Rows in
set_option maxRecDepth 100000 in
set_option maxHeartbeats 0 in
theorem PySem.Challenge.cw_evensigns_k29_whole_main_table_squares_holds : PySem.Challenge.rw_evensigns_k29_whole_main_table_squares.Holds := by
  w_on; o_law; k_head; (case hw => w_witness2)
  k_fill
  refine FL.walk_G (l := PySem.Challenge.rw_evensigns_k29_whole_main_table_squares) (n := 63) (k := 3) (y := "script") (x := "law") (qual := "law") (N := ["script", "pot", "turn", "table", "n", "signs", "kept", "is_apart", "squares", "own", "rows", "row", "a", "b", "due", "lots", "j", "turned", "worst"]) (st := Wk.st_law) rfl (by decide) rfl ⟨rfl, by decide, by decide⟩ (fun w h Y => PySem.W.kIn_of Y) Wk.sc_law ?F
  case F =>
    intro w mg fa h KX G hmg
    refine' Wk.law_of (Wk.all_mk (w := w) KX G hmg ?n_product_sum ?l_product_sum ?c_product_sum ?k_product_sum ?n_apart_fault ?l_apart_fault ?c_apart_fault ?k_apart_fault ?n_table_sums ?l_table_sums ?c_table_sums ?k_table_sums ?n_table_worst ?l_table_worst ?c_table_worst ?k_table_worst ?n_table_squares ?l_table_squares ?c_table_squares ?k_table_squares ?n_normal_table ?l_normal_table ?c_normal_table ?k_normal_table ?n_lots_of_signs ?l_lots_of_signs ?c_lots_of_signs ?k_lots_of_signs ?n__law_pot ?l__law_pot ?c__law_pot ?k__law_pot ?n__law_draw ?l__law_draw ?c__law_draw ?k__law_draw ?n__law_mixed ?l__law_mixed ?c__law_mixed ?k__law_mixed ?n__law_signs ?l__law_signs ?c__law_signs ?k__law_signs ?n__law_table ?l__law_table ?c__law_table ?k__law_table ?n__law_apart ?l__law_apart ?c__law_apart ?k__law_apart ?n__law_rows ?l__law_rows ?c__law_rows ?k__law_rows ?n_law ?l_law ?c_law ?k_law ?z_abs ?z_any ?z_enumerate ?z_int ?z_len ?z_list ?z_max ?z_range ?z_repr ?z_sum ?z_tuple ?z_zip)
    (case n_product_sum => k_is)
    (case l_product_sum => k_is)
    (case c_product_sum => k_is)
    (case k_product_sum => k_is)
    (case n_apart_fault => k_is)
    (case l_apart_fault => k_is)
    (case c_apart_fault => k_is)
    (case k_apart_fault => k_is)
    (case n_table_sums => k_is)
    (case l_table_sums => k_is)
    (case c_table_sums => k_is)
    (case k_table_sums => k_is)
    (case n_table_worst => k_is)
    (case l_table_worst => k_is)
    (case c_table_worst => k_is)
    (case k_table_worst => k_is)
    (case n_table_squares => k_is)
    (case l_table_squares => k_is)
    (case c_table_squares => k_is)
    (case k_table_squares => k_is)
    (case n_normal_table => k_is)
    (case l_normal_table => k_is)
    (case c_normal_table => k_is)
    (case k_normal_table => k_is)
    (case n_lots_of_signs => k_is)
    (case l_lots_of_signs => k_is)
    (case c_lots_of_signs => k_is)
    (case k_lots_of_signs => k_is)
    (case n__law_pot => k_is)
    (case l__law_pot => k_is)
    (case c__law_pot => k_is)
    (case k__law_pot => k_is)
    (case n__law_draw => k_is)
    (case l__law_draw => k_is)
    (case c__law_draw => k_is)
    (case k__law_draw => k_is)
    (case n__law_mixed => k_is)
    (case l__law_mixed => k_is)
    (case c__law_mixed => k_is)
    (case k__law_mixed => k_is)
    (case n__law_signs => k_is)
    (case l__law_signs => k_is)
    (case c__law_signs => k_is)
    (case k__law_signs => k_is)
    (case n__law_table => k_is)
    (case l__law_table => k_is)
    (case c__law_table => k_is)
    (case k__law_table => k_is)
    (case n__law_apart => k_is)
    (case l__law_apart => k_is)
    (case c__law_apart => k_is)
    (case k__law_apart => k_is)
    (case n__law_rows => k_is)
    (case l__law_rows => k_is)
    (case c__law_rows => k_is)
    (case k__law_rows => k_is)
    (case n_law => k_is)
    (case l_law => k_is)
    (case c_law => k_is)
    (case k_law => k_is)
    (case z_abs => k_is)
    (case z_any => k_is)
    (case z_enumerate => k_is)
    (case z_int => k_is)
    (case z_len => k_is)
    (case z_list => k_is)
    (case z_max => k_is)
    (case z_range => k_is)
    (case z_repr => k_is)
    (case z_sum => k_is)
    (case z_tuple => k_is)
    (case z_zip => k_is)
