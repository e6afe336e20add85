import PyProof.Rows.All
import Wide.All
import OpenK.AllK
import Wide.FinOn
import HandS.ForMost
import HandS.Wide
import HandS.TupAny
import HandS.TupMul
import HandS.EndBits
import PyProof.ReprRoads
import HandS.Zip
import HandS.Deep
import KE.DataMinMax
import KE.DataCmp
import KE.SortData
import KE.KTupSum
import KE.DataAny
import HandS.Style
import KE.GoesEnum
import HandS.IsInst
import HandS.SortInts
import PyProof.ListRange
import HandS.Conv
import KE.GoesMore
import KE.GoesZip
import PyProof.StrLawsRepr
import HandS.TupSets
import HandS.Iter
import KE.BitLaws
import PySem.Challenge.RW_evensigns_k42_whole_main_window_squares
set_option Elab.async false
set_option linter.all false
set_option maxRecDepth 100000
set_option maxHeartbeats 4000000
set_option autoImplicit false
namespace FL
open PySem PySem.Spec PyProof.Rows L2

/-! ### what a value reads as, no dict of it the table of modules -/
mutual
inductive RdN (h : Heap) : Value → PyData → Prop
  | none : RdN h .none .none
  | bool (b : Bool) : RdN h (.bool b) (.bool b)
  | int (i : Int) (t : Tok) : RdN h (.int i t) (.int i)
  | str (x : Str) (t : Tok) : RdN h (.str x t) (.str x)
  | list {a : Addr} {o : Obj} {vs : Array Value} {n : Nat} {xs : List PyData} : h.get? a = some o → o.cls = .type "list" → o.data = .seq vs n → RdNs h vs.toList xs → RdN h (.ref a) (.list xs)
  | tuple {a : Addr} {o : Obj} {vs : Array Value} {n : Nat} {xs : List PyData} : h.get? a = some o → o.cls = .type "tuple" → o.data = .seq vs n → RdNs h vs.toList xs → RdN h (.ref a) (.tuple xs)
  | dict {a : Addr} {o : Obj} {es : Array DictEntry} {n : Nat} {kvs : List (PyData × PyData)} : (a == sysModules) = false → h.get? a = some o → o.cls = .type "dict" → o.data = .dict es n → RdNs h (es.toList.map (·.key)) (kvs.map (·.1)) →
      RdNs h (es.toList.map (·.val)) (kvs.map (·.2)) → RdN h (.ref a) (.dict kvs)
inductive RdNs (h : Heap) : List Value → List PyData → Prop
  | nil : RdNs h [] []
  | cons {v : Value} {vs : List Value} {d : PyData} {ds : List PyData} : RdN h v d → RdNs h vs ds → RdNs h (v :: vs) (d :: ds)
end
mutual
theorem RdN.reads {h : Heap} : ∀ {v : Value} {d : PyData}, RdN h v d → ∃ us, Reads h v d us
  | _, _, .none => ⟨_, .none⟩
  | _, _, .bool b => ⟨_, .bool b⟩
  | _, _, .int i t => ⟨_, .int i t⟩
  | _, _, .str x t => ⟨_, .str x t⟩
  | _, _, .list e1 e2 e3 e4 => let ⟨_, q⟩ := e4.reads; ⟨_, .list e1 e2 e3 q⟩
  | _, _, .tuple e1 e2 e3 e4 => let ⟨_, q⟩ := e4.reads; ⟨_, .tuple e1 e2 e3 q⟩
  | _, _, .dict _ e1 e2 e3 e4 e5 => let ⟨_, q⟩ := e4.reads; let ⟨_, q'⟩ := e5.reads; ⟨_, .dict e1 e2 e3 q q'⟩
theorem RdNs.reads {h : Heap} : ∀ {vs : List Value} {ds : List PyData}, RdNs h vs ds → ∃ us, ReadsAll h vs ds us
  | _, _, .nil => ⟨_, .nil⟩
  | _, _, .cons e1 e2 => let ⟨_, q⟩ := e1.reads; let ⟨_, q'⟩ := e2.reads; ⟨_, .cons q q'⟩
end
section
variable {P : Program} {w : World} {h : Heap}
theorem near_list {a : Addr} {o : Obj} {vs : Array Value} {n : Nat} {xs : List PyData} {cs : List Addr} (e1 : h.get? a = some o) (e2 : o.cls = .type "list") (e3 : o.data = .seq vs n) (e4 : RdNs h vs.toList xs) (hc : ReadAtMost h (PyData.depthAll xs) cs) :
    a ∉ cs ∧ ReadAtMost h (PyData.depthAll xs + 1) (a :: cs) := by
  obtain ⟨_, q⟩ := e4.reads
  have q' := Reads.list e1 e2 e3 q
  have hd : PyData.depth (.list xs) = PyData.depthAll xs + 1 := by rw [PyData.depth]
  refine ⟨not_mem_of_deeper q' (by omega) hc, ?_⟩
  rw [← hd]
  exact ReadAtMost.cons q' (by omega) hc
theorem near_tuple {a : Addr} {o : Obj} {vs : Array Value} {n : Nat} {xs : List PyData} {cs : List Addr} (e1 : h.get? a = some o) (e2 : o.cls = .type "tuple") (e3 : o.data = .seq vs n) (e4 : RdNs h vs.toList xs) (hc : ReadAtMost h (PyData.depthAll xs) cs) :
    a ∉ cs ∧ ReadAtMost h (PyData.depthAll xs + 1) (a :: cs) := by
  obtain ⟨_, q⟩ := e4.reads
  have q' := Reads.tuple e1 e2 e3 q
  have hd : PyData.depth (.tuple xs) = PyData.depthAll xs + 1 := by rw [PyData.depth]
  refine ⟨not_mem_of_deeper q' (by omega) hc, ?_⟩
  rw [← hd]
  exact ReadAtMost.cons q' (by omega) hc
theorem near_dict {a : Addr} {o : Obj} {es : Array DictEntry} {n : Nat} {kvs : List (PyData × PyData)} {cs ds : List Addr} (e1 : h.get? a = some o) (e2 : o.cls = .type "dict") (e3 : o.data = .dict es n) (e4 : RdNs h (es.toList.map (·.key)) (kvs.map (·.1))) (e5 : RdNs h (es.toList.map (·.val)) (kvs.map (·.2)))
    (hc : ReadAtMost h (PyData.depthAll (kvs.map (·.1))) cs) (hd : ReadAtMost h (PyData.depthAll (kvs.map (·.2))) ds) : a ∉ cs ++ ds ∧ ReadAtMost h (PyData.depthKv kvs + 1) (a :: (cs ++ ds)) := by
  obtain ⟨_, q1⟩ := e4.reads
  obtain ⟨_, q2⟩ := e5.reads
  have q' := Reads.dict e1 e2 e3 q1 q2
  have he : PyData.depth (.dict kvs) = PyData.depthKv kvs + 1 := by rw [PyData.depth]
  have hb := (hc.mono (PyData.depthAll_keys_le kvs)).append (hd.mono (PyData.depthAll_vals_le kvs))
  refine ⟨not_mem_of_deeper q' (by omega) hb, ?_⟩
  rw [← he]
  exact ReadAtMost.cons q' (by omega) hb
theorem kv_entries {es : Array DictEntry} {kvs : List (PyData × PyData)} {cs ds : List Addr} (x1 : ReprAllK P w cs h (PyData.depthAll (kvs.map (·.1))) (es.toList.map (·.key)) (PyData.shownAll (kvs.map (·.1)))) (x2 : ReprAllK P w ds h (PyData.depthAll (kvs.map (·.2))) (es.toList.map (·.val)) (PyData.shownAll (kvs.map (·.2)))) :
    ReprEntriesK P w (cs ++ ds) h (PyData.depthKv kvs) es.toList (PyData.shownKv kvs) := by
  rw [PyData.shownKv_eq]
  refine ReprEntriesK.of_two _ _ _ ?_ ?_
  · exact x1.more_le (fun b hb => List.mem_append.mpr (.inl hb)) (PyData.depthAll_keys_le kvs)
  · exact x2.more_le (fun b hb => List.mem_append.mpr (.inr hb)) (PyData.depthAll_vals_le kvs)
theorem kv_sizes {kvs : List (PyData × PyData)} (z : (PyData.shown (.dict kvs)).length ≤ sizeLine) : (∀ t ∈ PyData.shownAll (kvs.map (·.1)), t.length ≤ sizeLine) ∧ ∀ t ∈ PyData.shownAll (kvs.map (·.2)), t.length ≤ sizeLine := by
  rw [PyData.shown] at z
  constructor
  · intro t ht
    obtain ⟨q, q1, q2⟩ := PyData.shownKv_key_le kvs t ht
    have := dictText_mem_le q1
    omega
  · intro t ht
    obtain ⟨q, q1, q2⟩ := PyData.shownKv_val_le kvs t ht
    have := dictText_mem_le q1
    omega
mutual
theorem RdN.k : ∀ {v : Value} {d : PyData}, RdN h v d → d.showable = true → d.shown.length ≤ sizeLine → ∃ cs, ReadAtMost h d.depth cs ∧ ReprK P w cs h d.depth v d.shown
  | _, _, .none, _, _ => ⟨[], fun _ z => (by cases z), by rw [PyData.shown]; exact .of_is ReprIs.none _ _ _⟩
  | _, _, .bool b, _, _ => ⟨[], fun _ z => (by cases z), by rw [PyData.shown]; exact .of_is (ReprIs.bool b) _ _ _⟩
  | _, _, .int i t, y, _ => ⟨[], fun _ z => (by cases z), by rw [PyData.shown]; exact .of_is (ReprIs.int t (by rw [PyData.showable] at y; exact of_decide_eq_true y)) _ _ _⟩
  | _, _, .str x t, _, z => ⟨[], fun _ z => (by cases z), by rw [PyData.shown] at z ⊢; exact .of_is (ReprIs.str x t z) _ _ _⟩
  | _, _, .list (vs := vs) (xs := xs) e1 e2 e3 e4, y, z => by
    rw [PyData.showable] at y
    rw [PyData.shown] at z
    obtain ⟨cs, c1, c2⟩ := RdNs.k e4 y fun t ht => Nat.le_trans (listText_mem_le ht) z
    obtain ⟨n1, n2⟩ := near_list e1 e2 e3 e4 c1
    rw [PyData.depth, PyData.shown]
    refine ⟨_, n2, ?_⟩
    obtain ⟨l⟩ := vs
    cases l with
    | nil =>
      have e5 : RdNs h [] xs := e4
      cases e5
      rw [PyData.shownAll, listText_nil]
      exact ReprK.listEmpty e1 e2 e3
    | cons u l => exact ReprK.list e1 e2 e3 n1 (by simpa using c2.length_eq) fun i y e => c2.item i y (by simpa using e)
  | _, _, .tuple e1 e2 e3 e4, y, z => by
    rw [PyData.showable] at y
    rw [PyData.shown] at z
    obtain ⟨cs, c1, c2⟩ := RdNs.k e4 y fun t ht => Nat.le_trans (tupleText_mem_le ht) z
    obtain ⟨n1, n2⟩ := near_tuple e1 e2 e3 e4 c1
    rw [PyData.depth, PyData.shown]
    exact ⟨_, n2, ReprK.tuple e1 e2 e3 n1 c2⟩
  | _, _, .dict (kvs := kvs) e0 e1 e2 e3 e4 e5, y, z => by
    rw [PyData.showable] at y
    obtain ⟨y1, y2⟩ := PyData.showableKv_split _ y
    obtain ⟨z1, z2⟩ := kv_sizes z
    obtain ⟨cs, c1, c2⟩ := RdNs.k e4 y1 z1
    obtain ⟨ds, d1, d2⟩ := RdNs.k e5 y2 z2
    obtain ⟨n1, n2⟩ := near_dict e1 e2 e3 e4 e5 c1 d1
    rw [PyData.depth, PyData.shown]
    exact ⟨_, n2, ReprK.dict e1 e2 e3 e0 n1 (kv_entries c2 d2)⟩
theorem RdNs.k : ∀ {vs : List Value} {ds : List PyData}, RdNs h vs ds → PyData.showableAll ds = true → (∀ t ∈ PyData.shownAll ds, t.length ≤ sizeLine) → ∃ cs, ReadAtMost h (PyData.depthAll ds) cs ∧ ReprAllK P w cs h (PyData.depthAll ds) vs (PyData.shownAll ds)
  | _, _, .nil, _, _ => ⟨[], fun _ z => (by cases z), by rw [PyData.shownAll]; exact .nil⟩
  | _, _, .cons (d := d) (ds := ds) e1 e2, y, z => by
    rw [PyData.showableAll, Bool.and_eq_true] at y
    rw [PyData.shownAll] at z ⊢
    rw [PyData.depthAll]
    obtain ⟨cs, c1, c2⟩ := RdN.k e1 y.1 (z _ List.mem_cons_self)
    obtain ⟨bs, b1, b2⟩ := RdNs.k e2 y.2 fun t ht => z t (List.mem_cons_of_mem _ ht)
    refine ⟨cs ++ bs, (c1.mono (Nat.le_max_left _ _)).append (b1.mono (Nat.le_max_right _ _)), .cons ?_ ?_⟩
    · exact (c2.more fun b hb => List.mem_append.mpr (.inl hb)).level_le (Nat.le_max_left _ _)
    · exact b2.more_le (fun b hb => List.mem_append.mpr (.inr hb)) (Nat.le_max_right _ _)
end
/-- repr of what is laid -/
theorem repr_rdn {a : Addr} {d : PyData} {A : Around} {E Q : Value → Shared → Prop} {s : Shared} (r : RdN s.heap (.ref a) d) (y : d.showable = true) (g : A.guards = some []) (u : A.units + (d.depth + 1) < cLine) (z : d.shown.length ≤ sizeLine)
    (k : ∀ h' t tk, (∀ b o, s.heap.get? b = some o → h'.get? b = some o) → Q (.str d.shown t) { s with heap := h', toks := tk }) : wpAny (model P w) A (call (.builtin "repr") [.ref a]) Q E s := by
  have g1 : A.in1.guards = some [] := g
  have same : ∀ (b : Addr) (o : Obj), s.heap.get? b = some o → s.heap.get? b = some o := fun _ _ e => e
  have u1 : A.units + 1 < cLine := by omega
  cases r with
  | list e1 e2 e3 e4 =>
    rename_i o vs n xs
    have y' := y
    rw [PyData.showable] at y'
    have z' := z
    rw [PyData.shown] at z'
    rw [PyData.depth] at u
    obtain ⟨cs, c1, c2⟩ := RdNs.k (P := P) (w := w) e4 y' fun t ht => Nat.le_trans (listText_mem_le ht) z'
    obtain ⟨n1, _⟩ := near_list e1 e2 e3 e4 c1
    refine call_repr_slot (by omega) ⟨o, e1, e2⟩ F.slot_list_repr.toG ?_
    rw [PyData.shown] at k
    obtain ⟨l⟩ := vs
    cases l with
    | nil =>
      have e5 : RdNs s.heap [] xs := e4
      cases e5
      rw [PyData.shownAll, listText_nil] at k
      exact call_list_repr_empty ⟨o, e1, e2⟩ e1 e3 ⟨_, _, rfl, k s.heap _ _ same⟩
    | cons x l => exact call_list_reprK e1 e2 e3 n1 (by simpa using c2.length_eq) (fun i y e => c2.item i y (by simpa using e)) g1 (fun b _ => Clear.nil b) (by show A.units + 1 + _ < _; omega) same (fun h' t tk hk => ⟨_, _, rfl, k h' t tk hk⟩) z'
  | tuple e1 e2 e3 e4 =>
    rename_i o vs n xs
    have y' := y
    rw [PyData.showable] at y'
    have z' := z
    rw [PyData.shown] at z'
    rw [PyData.depth] at u
    obtain ⟨cs, c1, c2⟩ := RdNs.k (P := P) (w := w) e4 y' fun t ht => Nat.le_trans (tupleText_mem_le ht) z'
    obtain ⟨n1, _⟩ := near_tuple e1 e2 e3 e4 c1
    refine call_repr_slot (by omega) ⟨o, e1, e2⟩ F.slot_tuple_repr ?_
    rw [PyData.shown] at k
    exact call_tuple_reprK e1 e2 e3 n1 c2 g1 (fun b _ => Clear.nil b) (by show A.units + 1 + _ < _; omega) same (fun h' t tk hk => ⟨_, _, rfl, k h' t tk hk⟩) z'
  | dict e0 e1 e2 e3 e4 e5 =>
    rename_i o es n kvs
    have y' := y
    rw [PyData.showable] at y'
    obtain ⟨y1, y2⟩ := PyData.showableKv_split _ y'
    obtain ⟨z1, z2⟩ := kv_sizes z
    obtain ⟨cs, c1, c2⟩ := RdNs.k (P := P) (w := w) e4 y1 z1
    obtain ⟨ds, d1, d2⟩ := RdNs.k (P := P) (w := w) e5 y2 z2
    obtain ⟨n1, _⟩ := near_dict e1 e2 e3 e4 e5 c1 d1
    rw [PyData.depth] at u
    refine call_repr_slot (by omega) ⟨o, e1, e2⟩ F.slot_dict_repr ?_
    rw [PyData.shown] at k z
    exact call_dict_reprK e1 e2 e3 e0 n1 (kv_entries c2 d2) g1 (fun b _ => Clear.nil b) (by show A.units + 1 + _ < _; omega) same (fun h' t tk hk => ⟨_, _, rfl, k h' t tk hk⟩) z
end
end FL

namespace FL
open PySem PySem.Spec PyProof.Rows L2

abbrev D := PyData

/-! ### what stays -/
theorem sq_t {K : PySem.W.Frag} {B H : Hp} {a : Addr} {xs : List V}
    (e : Same B H) (h : SqT K B a xs) : SqT K H a xs := by
  rcases h with (h | ⟨o, h⟩) | h
  · exact .inl (.inl (e _ _ h))
  · exact .inl (.inr ⟨o, e _ _ h⟩)
  · exact .inr h
/-- a key of a dict -/
def kD : Key → D
  | .inl i => .int i
  | .inr x => .str x
mutual
/-- a value reads as data, over what is known -/
inductive Dq (K : PySem.W.Frag) (H : Hp) : V → D → Prop
  | non : Dq K H .non .none
  | bl (b : Bool) : Dq K H (.bl b) (.bool b)
  | int (i : Int) : Dq K H (.int i) (.int i)
  | str (x : Str) : Dq K H (.str x) (.str x)
  | lst {a : Addr} {xs : List V} {ds : List D} :
      H a = some (.lst xs) → DqAll K H xs ds → Dq K H (.ref a) (.list ds)
  | tup {a : Addr} {xs : List V} {ds : List D} :
      SqT K H a xs → DqAll K H xs ds → Dq K H (.ref a) (.tuple ds)
  | dct {a : Addr} {ks : List (Key × V)} {es : List (D × D)} :
      H a = some (.dK ks) → DqKv K H ks es → Dq K H (.ref a) (.dict es)
inductive DqAll (K : PySem.W.Frag) (H : Hp) : List V → List D → Prop
  | nil : DqAll K H [] []
  | cons {v : V} {vs : List V} {d : D} {ds : List D} :
      Dq K H v d → DqAll K H vs ds → DqAll K H (v :: vs) (d :: ds)
inductive DqKv (K : PySem.W.Frag) (H : Hp) : List (Key × V) → List (D × D) → Prop
  | nil : DqKv K H [] []
  | cons {k : Key} {v : V} {ks : List (Key × V)} {d : D} {es : List (D × D)} :
      Dq K H v d → DqKv K H ks es → DqKv K H ((k, v) :: ks) ((kD k, d) :: es)
end
mutual
theorem Dq.p {K : PySem.W.Frag} {H : Hp} : ∀ (d : D) (v : V), d.hasDict = false → Dq K H v d → Dp K H v d
  | .none, _, _, h => by cases h; exact .non
  | .bool _, _, _, h => by cases h; exact .bl _
  | .int _, _, _, h => by cases h; exact .int _
  | .str _, _, _, h => by cases h; exact .str _
  | .list ds, _, f, h => by
    rw [PyData.hasDict] at f
    cases h with
    | lst hs ha => exact .lst (SqL.of hs) (DqAll.p ds _ f ha)
  | .tuple ds, _, f, h => by
    rw [PyData.hasDict] at f
    cases h with
    | tup hs ha => exact .tup hs (DqAll.p ds _ f ha)
  | .dict _, _, f, h => by rw [PyData.hasDict] at f; cases f
theorem DqAll.p {K : PySem.W.Frag} {H : Hp} : ∀ (ds : List D) (vs : List V), PyData.hasDictAll ds = false → DqAll K H vs ds → DpAll K H vs ds
  | [], _, _, h => by cases h; exact .nil
  | d :: ds, _, f, h => by
    rw [PyData.hasDictAll, Bool.or_eq_false_iff] at f
    cases h with
    | cons h1 h2 => exact .cons (Dq.p d _ f.1 h1) (DqAll.p ds _ f.2 h2)
end
mutual
theorem Dq_up {K : PySem.W.Frag} {B H : Hp} (e : Same B H) :
    ∀ (d : D) (v : V), Dq K B v d → Dq K H v d
  | .none, _, h => by cases h; exact .non
  | .bool _, _, h => by cases h; exact .bl _
  | .int _, _, h => by cases h; exact .int _
  | .str _, _, h => by cases h; exact .str _
  | .list ds, _, h => by
    cases h with
    | lst hs ha => exact .lst (e _ _ hs) (DqA_up e ds _ ha)
  | .tuple ds, _, h => by
    cases h with
    | tup hs ha => exact .tup (sq_t e hs) (DqA_up e ds _ ha)
  | .dict es, _, h => by
    cases h with
    | dct hs ha => exact .dct (e _ _ hs) (DqK_up e es _ ha)
theorem DqA_up {K : PySem.W.Frag} {B H : Hp} (e : Same B H) :
    ∀ (ds : List D) (vs : List V), DqAll K B vs ds → DqAll K H vs ds
  | [], _, h => by cases h; exact .nil
  | d :: ds, _, h => by
    cases h with
    | cons h1 h2 => exact .cons (Dq_up e d _ h1) (DqA_up e ds _ h2)
theorem DqK_up {K : PySem.W.Frag} {B H : Hp} (e : Same B H) :
    ∀ (es : List (D × D)) (ks : List (Key × V)), DqKv K B ks es → DqKv K H ks es
  | [], _, h => by cases h; exact .nil
  | (_, d) :: es, _, h => by
    cases h with
    | cons h1 h2 => exact .cons (Dq_up e d _ h1) (DqK_up e es _ h2)
end
theorem DqAll.len {K : PySem.W.Frag} {B : Hp} : ∀ {vs : List V} {ds : List D}, DqAll K B vs ds → vs.length = ds.length
  | [], [], _ => rfl
  | _ :: _, _ :: _, .cons _ h => by
    rw [List.length_cons, List.length_cons, DqAll.len h]
theorem DqAll.at {K : PySem.W.Frag} {B : Hp} : ∀ {vs : List V} {ds : List D} {i : Nat} {v : V} {d : D}, DqAll K B vs ds → vs[i]? = some v → ds[i]? = some d → Dq K B v d
  | _ :: _, _ :: _, 0, _, _, .cons h _, e1, e2 => by
    simp at e1 e2; subst e1; subst e2; exact h
  | _ :: _, _ :: _, i + 1, _, _, .cons _ h, e1, e2 => by
    simp at e1 e2; exact DqAll.at h e1 e2
theorem DqAll.app {K : PySem.W.Frag} {B : Hp} : ∀ {vs ws : List V} {ds es : List D}, DqAll K B vs ds → DqAll K B ws es → DqAll K B (vs ++ ws) (ds ++ es)
  | [], _, [], _, _, h => h
  | _ :: _, _, _ :: _, _, .cons h t, g => .cons h (DqAll.app t g)
theorem DqAll.has {K : PySem.W.Frag} {B : Hp} {vs : List V} {ds : List D} {i : Nat} {d : D} (h : DqAll K B vs ds) (e : ds[i]? = some d) :
    ∃ v, vs[i]? = some v ∧ Dq K B v d := by
  have hl := DqAll.len h
  obtain ⟨hi, _⟩ := List.getElem?_eq_some_iff.mp e
  have hv : vs[i]? = some (vs[i]'(by omega)) := List.getElem?_eq_getElem (by omega)
  exact ⟨_, hv, DqAll.at h hv e⟩
theorem DqAll.has' {K : PySem.W.Frag} {B : Hp} {vs : List V} {ds : List D} {i : Nat} {v : V} (h : DqAll K B vs ds) (e : vs[i]? = some v) :
    ∃ d, ds[i]? = some d ∧ Dq K B v d := by
  have hl := DqAll.len h
  obtain ⟨hi, _⟩ := List.getElem?_eq_some_iff.mp e
  have hv : ds[i]? = some (ds[i]'(by omega)) := List.getElem?_eq_getElem (by omega)
  exact ⟨_, hv, DqAll.at h e hv⟩
theorem DqAll.put {K : PySem.W.Frag} {B : Hp} {v : V} {d : D} (r : Dq K B v d) : ∀ {vs : List V} {ds : List D} (i : Nat), DqAll K B vs ds → DqAll K B (vs.set i v) (ds.set i d)
  | _, _, _, .nil => .nil
  | _, _, 0, .cons _ t => .cons r t
  | _, _, i + 1, .cons q t => .cons q (DqAll.put r i t)
theorem DqAll.cut {K : PySem.W.Frag} {B : Hp} : ∀ {vs : List V} {ds : List D} (n : Nat), DqAll K B vs ds → DqAll K B (vs.take n) (ds.take n)
  | _, _, 0, _ => .nil
  | _, _, _ + 1, .nil => .nil
  | _, _, n + 1, .cons q t => .cons q (DqAll.cut n t)
theorem DqAll.rest {K : PySem.W.Frag} {B : Hp} : ∀ {vs : List V} {ds : List D} (n : Nat), DqAll K B vs ds → DqAll K B (vs.drop n) (ds.drop n)
  | _, _, 0, h => h
  | _, _, _ + 1, .nil => .nil
  | _, _, n + 1, .cons _ t => DqAll.rest n t
theorem DqAll.rev {K : PySem.W.Frag} {B : Hp} : ∀ {vs : List V} {ds : List D}, DqAll K B vs ds → DqAll K B vs.reverse ds.reverse
  | _, _, .nil => .nil
  | _, _, .cons q t => by
    rw [List.reverse_cons, List.reverse_cons]
    exact DqAll.app (DqAll.rev t) (.cons q .nil)

/-! ### slots -/
inductive Sl where
  | un
  | val (d : D)
  | own (ds : List D)
  | pot
abbrev Sg := List Sl

/-- an object that is changed by reference (the drawing pot): its address, its list's address -/
structure PotK (π : Type) where
  fp : Addr → Addr → List Addr
  ok : Addr → Addr → Hp → π → Prop
  loc : ∀ a g H H' p, (∀ b ∈ fp a g, H' b = H b) → ok a g H p → ok a g H' p
  trk : ∀ a g H p, ok a g H p → ∀ b ∈ fp a g, H b ≠ none
def noPot : PotK Unit := ⟨fun _ _ => [], fun _ _ _ _ => True, fun _ _ _ _ _ _ _ => trivial, fun _ _ _ _ _ _ h => by cases h⟩

/-- what a body stands in: the pot, what is not to be known, the heap at its entry -/
structure Fx where
  pa : Addr
  g : Addr
  N : Addr → Prop
  H0 : Hp

structure Rep {π : Type} (K : PySem.W.Frag) (Z : PotK π) (F : Fx) (B : Hp) (vs : L2.St) (H : Hp) (σ : Sg) (p : π) : Prop where
  sub : Same B H
  old : ∀ a o, a ∉ Z.fp F.pa F.g → F.H0 a = some o → H a = some o
  pok : Z.ok F.pa F.g H p
  potN : ∀ a ∈ Z.fp F.pa F.g, F.N a
  noB : ∀ a, F.N a → B a = none
  noH : ∀ a, F.N a → H a ≠ none
  len : vs.length = σ.length
  val : ∀ (i : Nat) (d : D), σ[i]? = some (.val d) → ∃ v, vs[i]? = some (some v) ∧ Dq K B v d
  own : ∀ (i : Nat) (ds : List D), σ[i]? = some (.own ds) → ∃ a xs, vs[i]? = some (some (.ref a)) ∧ H a = some (.lst xs) ∧ DqAll K B xs ds ∧ B a = none ∧ F.H0 a = none ∧ ¬ F.N a
  pot : ∀ i : Nat, σ[i]? = some Sl.pot → vs[i]? = some (some (.ref F.pa))
  apart : ∀ (i j : Nat) (a : Addr) (xs ys : List D), vs[i]? = some (some (.ref a)) → vs[j]? = some (some (.ref a)) → σ[i]? = some (.own xs) → σ[j]? = some (.own ys) → i = j

/-- growth: new objects alone -/
structure Gr (B H B' H' : Hp) : Prop where
  b : Same B B'
  h : Same H H'
  s : Same B' H'
  n : ∀ a, B' a ≠ none → B a ≠ none ∨ H a = none
theorem Gr.refl {B H : Hp} (s : Same B H) : Gr B H B H := ⟨Same.refl B, Same.refl H, s, fun _ h => .inl h⟩
theorem Gr.trans {B H B1 H1 B2 H2 : Hp} (x : Gr B H B1 H1) (y : Gr B1 H1 B2 H2) : Gr B H B2 H2 :=
  ⟨x.b.trans y.b, x.h.trans y.h, y.s, fun a h => by
    rcases y.n a h with z | z
    · exact x.n a z
    · exact .inr (x.h.free z)⟩
theorem Same.put {B : Hp} {p : Addr} {o : HO} (hb : B p = none) : Same B (upd B p o) := fun a u e => by
  rw [upd_ne (ne_of_none e hb)]; exact e
/-- an object laid anew, known from then on -/
theorem Gr.new {B H : Hp} {p : Addr} {o : HO} (s : Same B H) (hp : H p = none) : Gr B H (upd B p o) (upd H p o) := by
  refine ⟨Same.put (s.free hp), Same.put hp, fun a u e => ?_, fun a h => ?_⟩
  · by_cases z : a = p
    · subst z; rw [upd_same] at e ⊢; exact e
    · rw [upd_ne z] at e ⊢; exact s a u e
  · by_cases z : a = p
    · subst z; exact .inr hp
    · rw [upd_ne z] at h; exact .inl h
/-- laid anew, not yet known -/
theorem Gr.lay {B H : Hp} {p : Addr} {o : HO} (s : Same B H) (hp : H p = none) : Gr B H B (upd H p o) := by
  refine ⟨Same.refl B, Same.put hp, fun a u e => ?_, fun a h => .inl h⟩
  rw [upd_ne (ne_of_none (s a u e) hp)]; exact s a u e
/-- growth, the pot turned -/
structure GrZ {π : Type} (Z : PotK π) (pa g : Addr) (B H B' H' : Hp) (p' : π) : Prop where
  b : Same B B'
  h : ∀ a o, a ∉ Z.fp pa g → H a = some o → H' a = some o
  s : Same B' H'
  n : ∀ a, B' a ≠ none → B a ≠ none ∨ H a = none
  k : Z.ok pa g H' p'

section
variable {π : Type} {K : PySem.W.Frag} {Z : PotK π} {F : Fx} {B B' : Hp} {vs : L2.St} {H H' : Hp} {σ : Sg} {p p' : π}
theorem Rep.growZ (r : Rep K Z F B vs H σ p) (x : GrZ Z F.pa F.g B H B' H' p') : Rep K Z F B' vs H' σ p' where
  sub := x.s
  old := fun a o n e => x.h a o n (r.old a o n e)
  pok := x.k
  potN := r.potN
  noB := fun a ha => by
    cases e : B' a with
    | none => rfl
    | some o =>
      rcases x.n a (by rw [e]; simp) with z | z
      · exact absurd (r.noB a ha) z
      · exact absurd z (r.noH a ha)
  noH := fun a ha => by
    by_cases z : a ∈ Z.fp F.pa F.g
    · exact Z.trk F.pa F.g H' p' x.k a z
    · cases e : H a with
      | none => exact absurd e (r.noH a ha)
      | some o => rw [x.h a o z e]; simp
  len := r.len
  val := fun i d e => by
    obtain ⟨v, h1, h2⟩ := r.val i d e
    exact ⟨v, h1, Dq_up x.b d v h2⟩
  own := fun i ds e => by
    obtain ⟨a, xs, h1, h2, h3, h4, h5, h6⟩ := r.own i ds e
    refine ⟨a, xs, h1, x.h a _ (fun z => h6 (r.potN a z)) h2, DqA_up x.b ds xs h3, ?_, h5, h6⟩
    cases q : B' a with
    | none => rfl
    | some o =>
      rcases x.n a (by rw [q]; simp) with z | z
      · exact absurd h4 z
      · rw [z] at h2; cases h2
  pot := r.pot
  apart := r.apart
theorem Rep.gz (r : Rep K Z F B vs H σ p) (x : Gr B H B' H') : GrZ Z F.pa F.g B H B' H' p :=
  ⟨x.b, fun a o _ e => x.h a o e, x.s, x.n, Z.loc F.pa F.g H H' p (fun b hb => by
    cases e : H b with
    | none => exact absurd e (Z.trk F.pa F.g H p r.pok b hb)
    | some o => exact x.h b o e) r.pok⟩
theorem Rep.grow (r : Rep K Z F B vs H σ p) (x : Gr B H B' H') : Rep K Z F B' vs H' σ p := r.growZ (r.gz x)
/-- other slots over the same heap: what differs was neither owned nor the pot -/
theorem Rep.back {vs2 : L2.St} {σ2 : Sg} {B0 H2 : Hp} (r : Rep K Z F B0 vs2 H2 σ2 p') (r0 : Rep K Z F B vs H σ p) (s : Same B B0)
    (h : ∀ i : Nat, (σ2[i]? = σ[i]? ∧ vs2[i]? = vs[i]?) ∨ ((∀ ds, σ[i]? ≠ some (.own ds)) ∧ σ[i]? ≠ some Sl.pot)) : Rep K Z F B0 vs H2 σ p' where
  sub := r.sub
  old := r.old
  pok := r.pok
  potN := r.potN
  noB := r.noB
  noH := r.noH
  len := r0.len
  val := fun i d e => by
    obtain ⟨v, h1, h2⟩ := r0.val i d e
    exact ⟨v, h1, Dq_up s d v h2⟩
  own := fun i ds e => by
    rcases h i with ⟨e1, e2⟩ | ⟨n1, _⟩
    · rw [← e1] at e
      obtain ⟨a, xs, h1, h2⟩ := r.own i ds e
      exact ⟨a, xs, e2 ▸ h1, h2⟩
    · exact absurd e (n1 ds)
  pot := r0.pot
  apart := r0.apart
/-- a slot gets a known value -/
theorem Rep.set {v : V} {d : D} (r : Rep K Z F B vs H σ p) (i : Nat) (h : Dq K B v d) : Rep K Z F B (vs.set i (some v)) H (σ.set i (.val d)) p where
  sub := r.sub
  old := r.old
  pok := r.pok
  potN := r.potN
  noB := r.noB
  noH := r.noH
  len := by rw [List.length_set, List.length_set]; exact r.len
  val := fun j e q => by
    by_cases z : i = j
    · subst z
      have hi : i < σ.length := by
        obtain ⟨hi, _⟩ := List.getElem?_eq_some_iff.mp q
        rwa [List.length_set] at hi
      rw [List.getElem?_set_self hi] at q
      cases q
      exact ⟨v, List.getElem?_set_self (by rw [r.len]; exact hi), h⟩
    · rw [List.getElem?_set_ne z] at q ⊢
      exact r.val j e q
  own := fun j es q => by
    by_cases z : i = j
    · subst z
      have hi : i < σ.length := by
        obtain ⟨hi, _⟩ := List.getElem?_eq_some_iff.mp q
        rwa [List.length_set] at hi
      rw [List.getElem?_set_self hi] at q
      cases q
    · rw [List.getElem?_set_ne z] at q ⊢
      exact r.own j es q
  pot := fun j q => by
    by_cases z : i = j
    · subst z
      have hi : i < σ.length := by
        obtain ⟨hi, _⟩ := List.getElem?_eq_some_iff.mp q
        rwa [List.length_set] at hi
      rw [List.getElem?_set_self hi] at q
      cases q
    · rw [List.getElem?_set_ne z] at q ⊢
      exact r.pot j q
  apart := fun j k a xs ys e1 e2 q1 q2 => by
    have ne : ∀ (j : Nat) (xs : List D), (σ.set i (.val d))[j]? = some (.own xs) → i ≠ j := fun j xs q z => by
      subst z
      have hi : i < σ.length := by
        obtain ⟨hi, _⟩ := List.getElem?_eq_some_iff.mp q
        rwa [List.length_set] at hi
      rw [List.getElem?_set_self hi] at q
      cases q
    have n1 := ne j xs q1
    have n2 := ne k ys q2
    rw [List.getElem?_set_ne n1] at e1 q1
    rw [List.getElem?_set_ne n2] at e2 q2
    exact r.apart j k a xs ys e1 e2 q1 q2
/-- a slot is forgotten -/
theorem Rep.drop (r : Rep K Z F B vs H σ p) (i : Nat) (v : Option V) : Rep K Z F B (vs.set i v) H (σ.set i .un) p where
  sub := r.sub
  old := r.old
  pok := r.pok
  potN := r.potN
  noB := r.noB
  noH := r.noH
  len := by rw [List.length_set, List.length_set]; exact r.len
  val := fun j e q => by
    by_cases z : i = j
    · subst z
      have hi : i < σ.length := by
        obtain ⟨hi, _⟩ := List.getElem?_eq_some_iff.mp q
        rwa [List.length_set] at hi
      rw [List.getElem?_set_self hi] at q
      cases q
    · rw [List.getElem?_set_ne z] at q ⊢
      exact r.val j e q
  own := fun j es q => by
    by_cases z : i = j
    · subst z
      have hi : i < σ.length := by
        obtain ⟨hi, _⟩ := List.getElem?_eq_some_iff.mp q
        rwa [List.length_set] at hi
      rw [List.getElem?_set_self hi] at q
      cases q
    · rw [List.getElem?_set_ne z] at q ⊢
      exact r.own j es q
  pot := fun j q => by
    by_cases z : i = j
    · subst z
      have hi : i < σ.length := by
        obtain ⟨hi, _⟩ := List.getElem?_eq_some_iff.mp q
        rwa [List.length_set] at hi
      rw [List.getElem?_set_self hi] at q
      cases q
    · rw [List.getElem?_set_ne z] at q ⊢
      exact r.pot j q
  apart := fun j k a xs ys e1 e2 q1 q2 => by
    have ne : ∀ (j : Nat) (xs : List D), (σ.set i Sl.un)[j]? = some (.own xs) → i ≠ j := fun j xs q z => by
      subst z
      have hi : i < σ.length := by
        obtain ⟨hi, _⟩ := List.getElem?_eq_some_iff.mp q
        rwa [List.length_set] at hi
      rw [List.getElem?_set_self hi] at q
      cases q
    have n1 := ne j xs q1
    have n2 := ne k ys q2
    rw [List.getElem?_set_ne n1] at e1 q1
    rw [List.getElem?_set_ne n2] at e2 q2
    exact r.apart j k a xs ys e1 e2 q1 q2
/-- a slot gets a list of its own -/
theorem Rep.setL {a : Addr} {xs : List V} {ds : List D} (r : Rep K Z F B vs H σ p) (i : Nat) (h1 : H a = some (.lst xs)) (h2 : DqAll K B xs ds) (h3 : B a = none) (h4 : F.H0 a = none) (h5 : ¬ F.N a)
    (h6 : ∀ (j : Nat) (es : List D), j ≠ i → σ[j]? = some (.own es) → vs[j]? ≠ some (some (.ref a))) : Rep K Z F B (vs.set i (some (.ref a))) H (σ.set i (.own ds)) p where
  sub := r.sub
  old := r.old
  pok := r.pok
  potN := r.potN
  noB := r.noB
  noH := r.noH
  len := by rw [List.length_set, List.length_set]; exact r.len
  val := fun j e q => by
    by_cases z : i = j
    · subst z
      have hi : i < σ.length := by
        obtain ⟨hi, _⟩ := List.getElem?_eq_some_iff.mp q
        rwa [List.length_set] at hi
      rw [List.getElem?_set_self hi] at q
      cases q
    · rw [List.getElem?_set_ne z] at q ⊢
      exact r.val j e q
  own := fun j es q => by
    by_cases z : i = j
    · subst z
      have hi : i < σ.length := by
        obtain ⟨hi, _⟩ := List.getElem?_eq_some_iff.mp q
        rwa [List.length_set] at hi
      rw [List.getElem?_set_self hi] at q
      cases q
      exact ⟨a, xs, List.getElem?_set_self (by rw [r.len]; exact hi), h1, h2, h3, h4, h5⟩
    · rw [List.getElem?_set_ne z] at q ⊢
      exact r.own j es q
  pot := fun j q => by
    by_cases z : i = j
    · subst z
      have hi : i < σ.length := by
        obtain ⟨hi, _⟩ := List.getElem?_eq_some_iff.mp q
        rwa [List.length_set] at hi
      rw [List.getElem?_set_self hi] at q
      cases q
    · rw [List.getElem?_set_ne z] at q ⊢
      exact r.pot j q
  apart := fun j k b xs ys e1 e2 q1 q2 => by
    by_cases z1 : i = j
    · by_cases z2 : i = k
      · exact z1.symm.trans z2
      · exfalso
        subst z1
        have hi : i < σ.length := by
          obtain ⟨hi, _⟩ := List.getElem?_eq_some_iff.mp q1
          rwa [List.length_set] at hi
        rw [List.getElem?_set_self (by rw [r.len]; exact hi)] at e1
        cases e1
        rw [List.getElem?_set_ne z2] at e2 q2
        exact h6 k ys (Ne.symm z2) q2 e2
    · by_cases z2 : i = k
      · exfalso
        subst z2
        have hi : i < σ.length := by
          obtain ⟨hi, _⟩ := List.getElem?_eq_some_iff.mp q2
          rwa [List.length_set] at hi
        rw [List.getElem?_set_self (by rw [r.len]; exact hi)] at e2
        cases e2
        rw [List.getElem?_set_ne z1] at e1 q1
        exact h6 j xs (Ne.symm z1) q1 e1
      · rw [List.getElem?_set_ne z1] at e1 q1
        rw [List.getElem?_set_ne z2] at e2 q2
        exact r.apart j k b xs ys e1 e2 q1 q2
/-- the list of a slot is written -/
theorem Rep.write {a : Addr} {ys : List V} {ds es : List D} {i : Nat} (r : Rep K Z F B vs H σ p) (hi : σ[i]? = some (.own ds)) (ha : vs[i]? = some (some (.ref a))) (hy : DqAll K B ys es) :
    Rep K Z F B vs (upd H a (.lst ys)) (σ.set i (.own es)) p := by
  obtain ⟨b, zs, h1, h2, h3, h4, h5, h6⟩ := r.own i ds hi
  have eb : b = a := by
    rw [ha] at h1; cases h1; rfl
  subst eb
  have r1 : Rep K Z F B vs (upd H b (.lst ys)) (σ.set i .un) p := {
    sub := fun c o e => by rw [upd_ne (ne_of_none e h4)]; exact r.sub c o e
    old := fun c o n e => by rw [upd_ne (ne_of_none e h5)]; exact r.old c o n e
    pok := Z.loc F.pa F.g H _ p (fun c hc => upd_ne fun z => h6 (z ▸ r.potN c hc)) r.pok
    potN := r.potN
    noB := r.noB
    noH := fun c hc => by rw [upd_ne (show c ≠ b from fun z => h6 (by rw [← z]; exact hc))]; exact r.noH c hc
    len := by rw [List.length_set]; exact r.len
    val := fun j e q => by
      by_cases z : i = j
      · subst z
        have hj : i < σ.length := by
          obtain ⟨hj, _⟩ := List.getElem?_eq_some_iff.mp hi
          exact hj
        rw [List.getElem?_set_self hj] at q
        cases q
      · rw [List.getElem?_set_ne z] at q
        exact r.val j e q
    own := fun j e q => by
      by_cases z : i = j
      · subst z
        have hj : i < σ.length := by
          obtain ⟨hj, _⟩ := List.getElem?_eq_some_iff.mp hi
          exact hj
        rw [List.getElem?_set_self hj] at q
        cases q
      · rw [List.getElem?_set_ne z] at q
        obtain ⟨c, ws, g1, g2, g3⟩ := r.own j e q
        refine ⟨c, ws, g1, ?_, g3⟩
        rw [upd_ne (show c ≠ b from fun w => z (r.apart i j b ds e ha (by rw [← w]; exact g1) hi q))]
        exact g2
    pot := fun j q => by
      by_cases z : i = j
      · subst z
        have hj : i < σ.length := by
          obtain ⟨hj, _⟩ := List.getElem?_eq_some_iff.mp hi
          exact hj
        rw [List.getElem?_set_self hj] at q
        cases q
      · rw [List.getElem?_set_ne z] at q
        exact r.pot j q
    apart := fun j k c xs ys e1 e2 q1 q2 => by
      have ne : ∀ (j : Nat) (xs : List D), (σ.set i Sl.un)[j]? = some (.own xs) → i ≠ j := fun j xs q z => by
        subst z
        have hj : i < σ.length := by
          obtain ⟨hj, _⟩ := List.getElem?_eq_some_iff.mp hi
          exact hj
        rw [List.getElem?_set_self hj] at q
        cases q
      have n1 := ne j xs q1
      have n2 := ne k ys q2
      rw [List.getElem?_set_ne n1] at q1
      rw [List.getElem?_set_ne n2] at q2
      exact r.apart j k c xs ys e1 e2 q1 q2 }
  have hl : i < vs.length := (List.getElem?_eq_some_iff.mp ha).1
  have e0 : vs.set i (some (.ref b)) = vs := by
    apply List.ext_getElem?
    intro j
    by_cases z : i = j
    · subst z; rw [List.getElem?_set_self hl]; exact ha.symm
    · rw [List.getElem?_set_ne z]
  have r2 := r1.setL (a := b) (xs := ys) (ds := es) i upd_same hy h4 h5 h6 (fun j e n q w => by
    rw [List.getElem?_set_ne (Ne.symm n)] at q
    exact n (r.apart j i b e ds w ha q hi))
  rw [e0, List.set_set] at r2
  exact r2
/-- the list of a slot becomes known -/
theorem Rep.freeze {ds : List D} {i : Nat} (r : Rep K Z F B vs H σ p) (hi : σ[i]? = some (.own ds)) :
    ∃ B1, Same B B1 ∧ Rep K Z F B1 vs H (σ.set i (.val (.list ds))) p := by
  obtain ⟨a, xs, h1, h2, h3, h4, h5, h6⟩ := r.own i ds hi
  have s1 : Same B (upd B a (.lst xs)) := Same.put h4
  have hd : Dq K (upd B a (.lst xs)) (.ref a) (.list ds) := .lst upd_same (DqA_up s1 ds xs h3)
  refine ⟨upd B a (.lst xs), s1, ?_⟩
  have r1 : Rep K Z F (upd B a (.lst xs)) vs H (σ.set i .un) p := {
    sub := fun c o e => by
      by_cases z : c = a
      · subst z; rw [upd_same] at e; rw [← e]; exact h2
      · rw [upd_ne z] at e; exact r.sub c o e
    old := r.old
    pok := r.pok
    potN := r.potN
    noB := fun c hc => by rw [upd_ne (show c ≠ a from fun z => h6 (by rw [← z]; exact hc))]; exact r.noB c hc
    noH := r.noH
    len := by rw [List.length_set]; exact r.len
    val := fun j e q => by
      by_cases z : i = j
      · subst z
        rw [List.getElem?_set_self (List.getElem?_eq_some_iff.mp hi).1] at q
        cases q
      · rw [List.getElem?_set_ne z] at q
        obtain ⟨v, g1, g2⟩ := r.val j e q
        exact ⟨v, g1, Dq_up s1 e v g2⟩
    own := fun j e q => by
      by_cases z : i = j
      · subst z
        rw [List.getElem?_set_self (List.getElem?_eq_some_iff.mp hi).1] at q
        cases q
      · rw [List.getElem?_set_ne z] at q
        obtain ⟨c, ws, g1, g2, g3, g4, g5⟩ := r.own j e q
        refine ⟨c, ws, g1, g2, DqA_up s1 e ws g3, ?_, g5⟩
        rw [upd_ne (show c ≠ a from fun w => z (r.apart i j a ds e h1 (by rw [← w]; exact g1) hi q))]
        exact g4
    pot := fun j q => by
      by_cases z : i = j
      · subst z
        rw [List.getElem?_set_self (List.getElem?_eq_some_iff.mp hi).1] at q
        cases q
      · rw [List.getElem?_set_ne z] at q
        exact r.pot j q
    apart := fun j k c xs ys e1 e2 q1 q2 => by
      have ne : ∀ (j : Nat) (xs : List D), (σ.set i Sl.un)[j]? = some (.own xs) → i ≠ j := fun j xs q z => by
        subst z
        rw [List.getElem?_set_self (List.getElem?_eq_some_iff.mp hi).1] at q
        cases q
      have n1 := ne j xs q1
      have n2 := ne k ys q2
      rw [List.getElem?_set_ne n1] at q1
      rw [List.getElem?_set_ne n2] at q2
      exact r.apart j k c xs ys e1 e2 q1 q2 }
  have hl : i < vs.length := (List.getElem?_eq_some_iff.mp h1).1
  have e0 : vs.set i (some (.ref a)) = vs := by
    apply List.ext_getElem?
    intro j
    by_cases z : i = j
    · subst z; rw [List.getElem?_set_self hl]; exact h1.symm
    · rw [List.getElem?_set_ne z]
  have r2 := r1.set i hd
  rw [e0, List.set_set] at r2
  exact r2
end
end FL

namespace FL
open PySem PySem.Spec PyProof.Rows L2

/-! ### what a reading gives -/
abbrev SE (π : Type) := Sg → π → Option (D × π)
abbrev SL (π : Type) := Sg → π → Option (List D × π)
abbrev SB (π : Type) := Sg → π → Option (Bool × π)

def SemE {π : Type} (K : PySem.W.Frag) (Z : PotK π) (te : TE) (φ : SE π) : Prop :=
  ∀ (F : Fx) (B : Hp) (vs : L2.St) (H : Hp) (σ : Sg) (p : π) (d : D) (p' : π) (Q : VK),
    Rep K Z F B vs H σ p → φ σ p = some (d, p') →
    (∀ v H' B', Same B B' → Rep K Z F B' vs H' σ p' → Dq K B' v d → Q v H') → te vs H Q
/-- what is said of a list made anew -/
structure NewL {π : Type} (K : PySem.W.Frag) (Z : PotK π) (F : Fx) (B : Hp) (vs : L2.St) (H : Hp) (σ : Sg) (p : π) (a : Addr) (ds : List D) : Prop where
  rep : Rep K Z F B vs H σ p
  is : ∃ xs, H a = some (.lst xs) ∧ DqAll K B xs ds
  nB : B a = none
  n0 : F.H0 a = none
  nN : ¬ F.N a
  nS : ∀ (i : Nat) (es : List D), σ[i]? = some (.own es) → vs[i]? ≠ some (some (.ref a))
def SemL {π : Type} (K : PySem.W.Frag) (Z : PotK π) (te : TE) (φ : SL π) : Prop :=
  ∀ (F : Fx) (B : Hp) (vs : L2.St) (H : Hp) (σ : Sg) (p : π) (ds : List D) (p' : π) (Q : VK),
    Rep K Z F B vs H σ p → φ σ p = some (ds, p') →
    (∀ a H' B', Same B B' → NewL K Z F B' vs H' σ p' a ds → Q (.ref a) H') → te vs H Q
def SemA {π : Type} (K : PySem.W.Frag) (Z : PotK π) (ta : TA) (φ : SL π) : Prop :=
  ∀ (F : Fx) (B : Hp) (vs : L2.St) (H : Hp) (σ : Sg) (p : π) (ds : List D) (p' : π) (Q : List V → Hp → Prop),
    Rep K Z F B vs H σ p → φ σ p = some (ds, p') →
    (∀ xs H' B', Same B B' → Rep K Z F B' vs H' σ p' → DqAll K B' xs ds → Q xs H') → ta vs H Q
def SemT {π : Type} (K : PySem.W.Frag) (Z : PotK π) (tt : TT) (φ : SB π) : Prop :=
  ∀ (F : Fx) (B : Hp) (vs : L2.St) (H : Hp) (σ : Sg) (p : π) (b : Bool) (p' : π) (Q : Bool → Hp → Prop),
    Rep K Z F B vs H σ p → φ σ p = some (b, p') →
    (∀ H' B', Same B B' → Rep K Z F B' vs H' σ p' → Q b H') → tt vs H Q

/-- what stays through a law's walk -/
structure Sta where
  prog : Program
  w : World
  K : PySem.W.Frag
  mg : Str → Option Value
  base : Heap
  A : Around
/-- the contexts of a def's body and of its comprehensions -/
def Fam (S : Sta) (N : List Str) (sc : Scope) (X : Cx) : Prop := N.Nodup ∧ ∃ (s0 : Shared) (H0 : Hp) (env : Env) (outer stack : List Env) (ex : List Addr) (fn : Str → Bool) (pn : List (Addr × Obj)), env.scope = sc ∧
  X = ⟨S.prog, S.w, S.K, S.mg, S.base, S.A, N, s0, H0, env, outer, stack, ex, fn, true, pn, fun _ _ => False⟩
/-- .. of the body itself -/
def Fam1 (S : Sta) (N : List Str) (sc : Scope) (X : Cx) : Prop := Fam S N sc X ∧ ∀ x, X.fn x = true

structure FE {π : Type} (S : Sta) (N : List Str) (sc : Scope) (Z : PotK π) (e : Expr) (φ : SE π) : Prop where
  ex : ∃ te, (∀ X, Fam S N sc X → PE X e te) ∧ SemE S.K Z te φ
structure FL {π : Type} (S : Sta) (N : List Str) (sc : Scope) (Z : PotK π) (e : Expr) (φ : SL π) : Prop where
  ex : ∃ te, (∀ X, Fam S N sc X → PE X e te) ∧ SemL S.K Z te φ
structure FA {π : Type} (S : Sta) (N : List Str) (sc : Scope) (Z : PotK π) (es : List Expr) (φ : SL π) : Prop where
  ex : ∃ ta, (∀ X, Fam S N sc X → PA X es ta) ∧ SemA S.K Z ta φ
structure FT {π : Type} (S : Sta) (N : List Str) (sc : Scope) (Z : PotK π) (e : Expr) (φ : SB π) : Prop where
  ex : ∃ tt, (∀ X, Fam S N sc X → PT X e tt) ∧ SemT S.K Z tt φ
structure FW {π : Type} (S : Sta) (N : List Str) (sc : Scope) (Z : PotK π) (e : Expr) (φ : SB π) : Prop where
  ex : ∃ tt, (∀ X, Fam S N sc X → PW X e tt) ∧ SemT S.K Z tt φ

section
variable {π : Type} {Z : PotK π} {S : Sta} {N : List Str} {sc : Scope} {e a b : Expr} {es : List Expr} {pos : Pos}

theorem bnd {α β : Type} {x : Option α} {f : α → Option β} {y : β} (h : x.bind f = some y) : ∃ a, x = some a ∧ f a = some y := by
  cases x with
  | none => cases h
  | some a => exact ⟨a, rfl, h⟩
theorem mpd {α β : Type} {x : Option α} {f : α → β} {y : β} (h : x.map f = some y) : ∃ a, x = some a ∧ f a = y := by
  cases x with
  | none => cases h
  | some a => exact ⟨a, rfl, Option.some.inj h⟩

/-! ### lists of one's own become known -/
theorem NewL.known {K : PySem.W.Frag} {F : Fx} {B : Hp} {vs : L2.St} {H : Hp} {σ : Sg} {p : π} {a : Addr} {ds : List D} (n : NewL K Z F B vs H σ p a ds) :
    ∃ B1, Same B B1 ∧ Rep K Z F B1 vs H σ p ∧ Dq K B1 (.ref a) (.list ds) := by
  obtain ⟨xs, h1, h2⟩ := n.is
  have s1 : Same B (upd B a (.lst xs)) := Same.put n.nB
  have r := n.rep
  refine ⟨_, s1, ⟨fun b o e => ?_, r.old, r.pok, r.potN, fun b hb => ?_, r.noH, r.len, fun i d e => ?_, fun i es e => ?_, r.pot, r.apart⟩, .lst upd_same (DqA_up s1 ds xs h2)⟩
  · by_cases z : b = a
    · subst z; rw [upd_same] at e; rw [← e]; exact h1
    · rw [upd_ne z] at e; exact r.sub b o e
  · rw [upd_ne (show b ≠ a from fun z => n.nN (by rw [← z]; exact hb))]; exact r.noB b hb
  · obtain ⟨v, g1, g2⟩ := r.val i d e
    exact ⟨v, g1, Dq_up s1 d v g2⟩
  · obtain ⟨b, ys, g1, g2, g3, g4, g5, g6⟩ := r.own i es e
    refine ⟨b, ys, g1, g2, DqA_up s1 es ys g3, ?_, g5, g6⟩
    rw [upd_ne (show b ≠ a from fun z => n.nS i es e (by rw [← z]; exact g1))]; exact g4
def xLst (φ : SL π) : SE π := fun σ p => (φ σ p).map fun x => (.list x.1, x.2)
theorem fe_L {φ : SL π} (h : FL S N sc Z e φ) : FE S N sc Z e (xLst φ) := by
  obtain ⟨te, h1, h2⟩ := h.ex
  refine ⟨te, h1, fun F B vs H σ p d p' Q r e k => ?_⟩
  obtain ⟨⟨ds, p1⟩, e1, e2⟩ := mpd e
  cases e2
  refine h2 F B vs H σ p ds p1 Q r e1 fun a H' B' s n => ?_
  obtain ⟨B1, s1, r1, d1⟩ := n.known
  exact k _ H' B1 (s.trans s1) r1 d1

/-! ### names, constants -/
def xVar (i : Nat) : SE π := fun σ p => match σ[i]? with
  | some (.val d) => some (d, p)
  | _ => none
def xC (d : D) : SE π := fun _ p => some (d, p)
theorem sem_var {K : PySem.W.Frag} {i : Nat} : SemE K Z (tVar i) (xVar i) := fun F B vs H σ p d p' Q r e k => by
  unfold xVar at e
  split at e
  · rename_i d' q
    cases e
    obtain ⟨v, h1, h2⟩ := r.val i d q
    exact ⟨v, h1, k v H B (Same.refl B) r h2⟩
  · cases e
theorem sem_c {K : PySem.W.Frag} {v : V} {d : D} (h : ∀ B, Dq K B v d) : SemE K Z (tC v) (xC d) := fun F B vs H σ p d' p' Q r e k => by
  cases e
  exact k v H B (Same.refl B) r (h B)
theorem fe_var (i : Nat) {x : Str} (hN : N[i]? = some x := by rfl)
    (hv : Vis sc x := by first | exact Or.inl rfl | exact Or.inr (Or.inl rfl) | exact Or.inr (Or.inr rfl))
    (hd : (x == ("__debug__" : Str)) = false := by decide) (hcd : (x == ("__classdict__" : Str)) = false := by decide) : FE S N sc Z (.Name x pos) (xVar i) :=
  ⟨_, fun X ⟨_, s0, H0, env, outer, stack, ex, fn, pn, hs, hX⟩ => by
    subst hX
    exact pe_var (i := i) hN (by show Vis env.scope x; rw [hs]; exact hv) hd hcd, sem_var⟩
theorem fe_int {i : Int} {j} : FE S N sc Z (.Constant (.int i) j pos) (xC (.int i)) := ⟨_, fun _ _ => pe_int, sem_c fun _ => .int i⟩
theorem fe_bl {c : Bool} {j} : FE S N sc Z (.Constant (.bool c) j pos) (xC (.bool c)) := ⟨_, fun _ _ => pe_bl, sem_c fun _ => .bl c⟩
theorem fe_non {j} : FE S N sc Z (.Constant .none j pos) (xC .none) := ⟨_, fun _ _ => pe_non, sem_c fun _ => .non⟩
theorem fe_str {x : Str} {j} : FE S N sc Z (.Constant (.str x) j pos) (xC (.str x)) := ⟨_, fun _ _ => pe_str, sem_c fun _ => .str x⟩

/-! ### operations by values -/
/-- two values, by what they are -/
def Val2 (K : PySem.W.Frag) (r : R2) (f : D → D → Option D) : Prop :=
  ∀ (B H : Hp) (x y : V) (d e z : D) (Q : VK), Same B H → Dq K B x d → Dq K B y e → f d e = some z →
    (∀ v H' B', Gr B H B' H' → Dq K B' v z → Q v H') → r x y H Q
def Val1 (K : PySem.W.Frag) (r : V → Hp → VK → Prop) (f : D → Option D) : Prop :=
  ∀ (B H : Hp) (x : V) (d z : D) (Q : VK), Same B H → Dq K B x d → f d = some z →
    (∀ v H' B', Gr B H B' H' → Dq K B' v z → Q v H') → r x H Q
def ValN (K : PySem.W.Frag) (r : List V → Hp → VK → Prop) (f : List D → Option D) : Prop :=
  ∀ (B H : Hp) (xs : List V) (ds : List D) (z : D) (Q : VK), Same B H → DqAll K B xs ds → f ds = some z →
    (∀ v H' B', Gr B H B' H' → Dq K B' v z → Q v H') → r xs H Q
/-- a new list comes -/
def ValNL (K : PySem.W.Frag) (r : List V → Hp → VK → Prop) (f : List D → Option (List D)) : Prop :=
  ∀ (B H : Hp) (xs : List V) (ds : List D) (z : List D) (Q : VK), Same B H → DqAll K B xs ds → f ds = some z →
    (∀ a ys H' B', Gr B H B' H' → H a = none → B' a = none → H' a = some (.lst ys) → DqAll K B' ys z → Q (.ref a) H') → r xs H Q
def Val2L (K : PySem.W.Frag) (r : R2) (f : D → D → Option (List D)) : Prop :=
  ∀ (B H : Hp) (x y : V) (d e : D) (z : List D) (Q : VK), Same B H → Dq K B x d → Dq K B y e → f d e = some z →
    (∀ a ys H' B', Gr B H B' H' → H a = none → B' a = none → H' a = some (.lst ys) → DqAll K B' ys z → Q (.ref a) H') → r x y H Q

/-- one of two rules -/
theorem OpR.or2 {X : Cx} {f : Value → Value → Sem Value} {r q : R2} (h1 : OpR X f r) (h2 : OpR X f q) : OpR X f (fun x y H Q => r x y H Q ∨ q x y H Q) := by
  intro pins s σ H x y v u Q I rx ry h
  rcases h with h | h
  · exact h1 pins s σ H x y v u Q I rx ry h
  · exact h2 pins s σ H x y v u Q I rx ry h
theorem Val2.or2 {K : PySem.W.Frag} {r q : R2} {f g : D → D → Option D} (h1 : Val2 K r f) (h2 : Val2 K q g) : Val2 K (fun x y H Q => r x y H Q ∨ q x y H Q) (fun d e => (f d e).or (g d e)) := by
  intro B H x y d e z Q s hx hy hz k
  have hz : (f d e).or (g d e) = some z := hz
  cases c : f d e with
  | some w =>
    rw [c, Option.some_or] at hz
    cases hz
    exact .inl (h1 B H x y d e _ Q s hx hy c k)
  | none =>
    rw [c, Option.none_or] at hz
    exact .inr (h2 B H x y d e z Q s hx hy hz k)
theorem CallR.or2 {X : Cx} {f : Value} {r q : List V → Hp → VK → Prop} (h1 : CallR X f r) (h2 : CallR X f q) : CallR X f (fun xs H Q => r xs H Q ∨ q xs H Q) := by
  intro pins s σ H xs us Q I rx h
  rcases h with h | h
  · exact h1 pins s σ H xs us Q I rx h
  · exact h2 pins s σ H xs us Q I rx h
theorem ValN.or2 {K : PySem.W.Frag} {r q : List V → Hp → VK → Prop} {f g : List D → Option D} (h1 : ValN K r f) (h2 : ValN K q g) : ValN K (fun xs H Q => r xs H Q ∨ q xs H Q) (fun ds => (f ds).or (g ds)) := by
  intro B H xs ds z Q s hx hz k
  have hz : (f ds).or (g ds) = some z := hz
  cases c : f ds with
  | some w =>
    rw [c, Option.some_or] at hz
    cases hz
    exact .inl (h1 B H xs ds _ Q s hx c k)
  | none =>
    rw [c, Option.none_or] at hz
    exact .inr (h2 B H xs ds z Q s hx hz k)

def xBin (f : D → D → Option D) (φ ψ : SE π) : SE π := fun σ p => (φ σ p).bind fun x => (ψ σ x.2).bind fun y => (f x.1 y.1).map fun z => (z, y.2)
def xUn (f : D → Option D) (φ : SE π) : SE π := fun σ p => (φ σ p).bind fun x => (f x.1).map fun z => (z, x.2)
theorem sem_bin {K : PySem.W.Frag} {ta tb : TE} {r : R2} {f : D → D → Option D} {φ ψ : SE π} (h : Val2 K r f) (ha : SemE K Z ta φ) (hb : SemE K Z tb ψ) : SemE K Z (tOp r ta tb) (xBin f φ ψ) := by
  intro F B vs H σ p d p' Q rp e k
  obtain ⟨⟨x, p1⟩, e1, e⟩ := bnd e
  obtain ⟨⟨y, p2⟩, e2, e⟩ := bnd e
  obtain ⟨z, e3, e4⟩ := mpd e
  cases e4
  refine ha F B vs H σ p x p1 _ rp e1 fun v H1 B1 s1 r1 d1 => ?_
  refine hb F B1 vs H1 σ p1 y p2 _ r1 e2 fun u H2 B2 s2 r2 d2 => ?_
  exact h B2 H2 v u x y _ Q r2.sub (Dq_up s2 x v d1) d2 e3 fun w H3 B3 gr dw => k w H3 B3 ((s1.trans s2).trans gr.b) (r2.grow gr) dw
theorem sem_un {K : PySem.W.Frag} {ta : TE} {r : V → Hp → VK → Prop} {f : D → Option D} {φ : SE π} (h : Val1 K r f) (ha : SemE K Z ta φ) : SemE K Z (tUn r ta) (xUn f φ) := by
  intro F B vs H σ p d p' Q rp e k
  obtain ⟨⟨x, p1⟩, e1, e⟩ := bnd e
  obtain ⟨z, e3, e4⟩ := mpd e
  cases e4
  refine ha F B vs H σ p x p1 _ rp e1 fun v H1 B1 s1 r1 d1 => ?_
  exact h B1 H1 v x _ Q r1.sub d1 e3 fun w H3 B3 gr dw => k w H3 B3 (s1.trans gr.b) (r1.grow gr) dw
theorem fe_op {op : Operator} {r : R2} {f : D → D → Option D} {φ ψ : SE π} (ho : ∀ X, Fam S N sc X → OpR X (binaryOp op) r) (hv : Val2 S.K r f) (ha : FE S N sc Z a φ) (hb : FE S N sc Z b ψ) : FE S N sc Z (.BinOp a op b pos) (xBin f φ ψ) := by
  obtain ⟨ta, a1, a2⟩ := ha.ex
  obtain ⟨tb, b1, b2⟩ := hb.ex
  exact ⟨_, fun X hX => pe_op (ho X hX) (a1 X hX) (b1 X hX), sem_bin hv a2 b2⟩
theorem fe_cmp {op : CmpOp} {r : R2} {f : D → D → Option D} {φ ψ : SE π} (ho : ∀ X, Fam S N sc X → OpR X (compareOp op) r) (hv : Val2 S.K r f) (ha : FE S N sc Z a φ) (hb : FE S N sc Z b ψ) (hm : behindInMarks op b = false) : FE S N sc Z (.Compare a [op] [b] pos) (xBin f φ ψ) := by
  obtain ⟨ta, a1, a2⟩ := ha.ex
  obtain ⟨tb, b1, b2⟩ := hb.ex
  exact ⟨_, fun X hX => pe_cmpR (ho X hX) (a1 X hX) (b1 X hX) hm, sem_bin hv a2 b2⟩
theorem fe_un {op : UnaryOp} {r : V → Hp → VK → Prop} {f : D → Option D} {φ : SE π} (ho : ∀ X, Fam S N sc X → UnR X (unaryOp op) r) (hv : Val1 S.K r f) (ha : FE S N sc Z a φ) : FE S N sc Z (.UnaryOp op a pos) (xUn f φ) := by
  obtain ⟨ta, a1, a2⟩ := ha.ex
  exact ⟨_, fun X hX => pe_un (ho X hX) (a1 X hX), sem_un hv a2⟩

/-! ### tests -/
def xTest (φ : SE π) : SB π := fun σ p => (φ σ p).bind fun x => match x.1 with
  | .bool c => some (c, x.2)
  | _ => none
theorem sem_test {K : PySem.W.Frag} {te : TE} {φ : SE π} (h : SemE K Z te φ) : SemT K Z (tB te) (xTest φ) := by
  intro F B vs H σ p c p' Q r e k
  obtain ⟨⟨x, p1⟩, e1, e⟩ := bnd e
  cases x with
  | bool c' =>
    cases e
    refine h F B vs H σ p _ p1 _ r e1 fun v H' B' s r' d => ?_
    cases d
    exact ⟨_, rfl, k H' B' s r'⟩
  | none => cases e
  | int _ => cases e
  | str _ => cases e
  | list _ => cases e
  | tuple _ => cases e
  | dict _ => cases e
theorem ft_val {φ : SE π} (h : FE S N sc Z e φ) (he : ∀ (X : Cx) whole, isTrue e X.env whole = (do let v ← whole; standAt e.pos; holding [v] (truthy v)) := by intro _ _; rfl) : FT S N sc Z e (xTest φ) := by
  obtain ⟨te, h1, h2⟩ := h.ex
  exact ⟨_, fun X hX => pt_val (h1 X hX) (he X), sem_test h2⟩
theorem ft_cmp {op : CmpOp} {r : R2} {f : D → D → Option D} {φ ψ : SE π} (ho : ∀ X, Fam S N sc X → OpR X (compareOp op) r) (hv : Val2 S.K r f) (ha : FE S N sc Z a φ) (hb : FE S N sc Z b ψ) (hm : behindInMarks op b = false) : FT S N sc Z (.Compare a [op] [b] pos) (xTest (xBin f φ ψ)) := by
  obtain ⟨ta, a1, a2⟩ := ha.ex
  obtain ⟨tb, b1, b2⟩ := hb.ex
  exact ⟨_, fun X hX => pt_cmpR (ho X hX) (a1 X hX) (b1 X hX) hm, sem_test (sem_bin hv a2 b2)⟩
def xAnd (φ ψ : SB π) : SB π := fun σ p => (φ σ p).bind fun x => if x.1 = true then ψ σ x.2 else some (false, x.2)
def xOr (φ ψ : SB π) : SB π := fun σ p => (φ σ p).bind fun x => if x.1 = true then some (true, x.2) else ψ σ x.2
def xNot (φ : SB π) : SB π := fun σ p => (φ σ p).map fun x => (!x.1, x.2)
variable {φ ψ : SB π} {rest : List Expr}
theorem fw_and1 (h : FT S N sc Z a φ) : FW S N sc Z (.BoolOp .And [a] pos) φ := by
  obtain ⟨t, h1, h2⟩ := h.ex
  exact ⟨t, fun X hX => pw_and1 (h1 X hX), h2⟩
theorem fw_or1 (h : FT S N sc Z a φ) : FW S N sc Z (.BoolOp .Or [a] pos) φ := by
  obtain ⟨t, h1, h2⟩ := h.ex
  exact ⟨t, fun X hX => pw_or1 (h1 X hX), h2⟩
theorem fw_and (ha : FT S N sc Z a φ) (hb : FW S N sc Z (.BoolOp .And (b :: rest) pos) ψ) : FW S N sc Z (.BoolOp .And (a :: b :: rest) pos) (xAnd φ ψ) := by
  obtain ⟨t, a1, a2⟩ := ha.ex
  obtain ⟨u, b1, b2⟩ := hb.ex
  refine ⟨_, fun X hX => pw_and (a1 X hX) (b1 X hX), fun F B vs H σ p c p' Q r e k => ?_⟩
  obtain ⟨⟨x, p1⟩, e1, e⟩ := bnd e
  refine a2 F B vs H σ p x p1 _ r e1 fun H1 B1 s1 r1 => ?_
  cases x with
  | true => exact b2 F B1 vs H1 σ p1 c p' Q r1 e fun H2 B2 s2 r2 => k H2 B2 (s1.trans s2) r2
  | false =>
    cases e
    exact k H1 B1 s1 r1
theorem fw_or (ha : FT S N sc Z a φ) (hb : FW S N sc Z (.BoolOp .Or (b :: rest) pos) ψ) : FW S N sc Z (.BoolOp .Or (a :: b :: rest) pos) (xOr φ ψ) := by
  obtain ⟨t, a1, a2⟩ := ha.ex
  obtain ⟨u, b1, b2⟩ := hb.ex
  refine ⟨_, fun X hX => pw_or (a1 X hX) (b1 X hX), fun F B vs H σ p c p' Q r e k => ?_⟩
  obtain ⟨⟨x, p1⟩, e1, e⟩ := bnd e
  refine a2 F B vs H σ p x p1 _ r e1 fun H1 B1 s1 r1 => ?_
  cases x with
  | true =>
    cases e
    exact k H1 B1 s1 r1
  | false => exact b2 F B1 vs H1 σ p1 c p' Q r1 e fun H2 B2 s2 r2 => k H2 B2 (s1.trans s2) r2
theorem FW.t (h : FW S N sc Z e φ) : FT S N sc Z e φ := by
  obtain ⟨t, h1, h2⟩ := h.ex
  exact ⟨t, fun X hX => (h1 X hX).pt, h2⟩
theorem ft_not (h : FT S N sc Z a φ) : FT S N sc Z (.UnaryOp .Not a pos) (xNot φ) := by
  obtain ⟨t, h1, h2⟩ := h.ex
  refine ⟨_, fun X hX => pt_not (h1 X hX), fun F B vs H σ p c p' Q r e k => ?_⟩
  obtain ⟨⟨x, p1⟩, e1, e2⟩ := mpd e
  cases e2
  exact h2 F B vs H σ p x p1 _ r e1 fun H1 B1 s1 r1 => k H1 B1 s1 r1
/-- .. as values, all but the last bools -/
def xAndV (φ ψ : SE π) : SE π := fun σ p => (φ σ p).bind fun x => match x.1 with
  | .bool true => ψ σ x.2
  | .bool false => some (.bool false, x.2)
  | _ => none
def xOrV (φ ψ : SE π) : SE π := fun σ p => (φ σ p).bind fun x => match x.1 with
  | .bool true => some (.bool true, x.2)
  | .bool false => ψ σ x.2
  | _ => none
def xNotV (φ : SE π) : SE π := fun σ p => (φ σ p).bind fun x => match x.1 with
  | .bool c => some (.bool (!c), x.2)
  | _ => none
variable {α β : SE π}
theorem fe_one {op} (h : FE S N sc Z a α) : FE S N sc Z (.BoolOp op [a] pos) α := by
  obtain ⟨t, h1, h2⟩ := h.ex
  exact ⟨t, fun X hX => pe_one (h1 X hX), h2⟩
theorem fe_and (ha : FE S N sc Z a α) (hb : FE S N sc Z (.BoolOp .And (b :: rest) pos) β) : FE S N sc Z (.BoolOp .And (a :: b :: rest) pos) (xAndV α β) := by
  obtain ⟨t, a1, a2⟩ := ha.ex
  obtain ⟨u, b1, b2⟩ := hb.ex
  refine ⟨_, fun X hX => pe_and (a1 X hX) (b1 X hX), fun F B vs H σ p d p' Q r e k => ?_⟩
  obtain ⟨⟨x, p1⟩, e1, e⟩ := bnd e
  refine a2 F B vs H σ p x p1 _ r e1 fun v H1 B1 s1 r1 d1 => ?_
  cases d1 with
  | bl c =>
    refine ⟨c, rfl, ?_⟩
    cases c with
    | true => exact b2 F B1 vs H1 σ p1 d p' Q r1 e fun w H2 B2 s2 r2 dw => k w H2 B2 (s1.trans s2) r2 dw
    | false =>
      cases e
      exact k _ H1 B1 s1 r1 (.bl false)
  | _ => cases e
theorem fe_or (ha : FE S N sc Z a α) (hb : FE S N sc Z (.BoolOp .Or (b :: rest) pos) β) : FE S N sc Z (.BoolOp .Or (a :: b :: rest) pos) (xOrV α β) := by
  obtain ⟨t, a1, a2⟩ := ha.ex
  obtain ⟨u, b1, b2⟩ := hb.ex
  refine ⟨_, fun X hX => pe_or (a1 X hX) (b1 X hX), fun F B vs H σ p d p' Q r e k => ?_⟩
  obtain ⟨⟨x, p1⟩, e1, e⟩ := bnd e
  refine a2 F B vs H σ p x p1 _ r e1 fun v H1 B1 s1 r1 d1 => ?_
  cases d1 with
  | bl c =>
    refine ⟨c, rfl, ?_⟩
    cases c with
    | true =>
      cases e
      exact k _ H1 B1 s1 r1 (.bl true)
    | false => exact b2 F B1 vs H1 σ p1 d p' Q r1 e fun w H2 B2 s2 r2 dw => k w H2 B2 (s1.trans s2) r2 dw
  | _ => cases e
theorem fe_not (ha : FE S N sc Z a α) : FE S N sc Z (.UnaryOp .Not a pos) (xNotV α) := by
  obtain ⟨t, a1, a2⟩ := ha.ex
  refine ⟨_, fun X hX => pe_not (a1 X hX), fun F B vs H σ p d p' Q r e k => ?_⟩
  obtain ⟨⟨x, p1⟩, e1, e⟩ := bnd e
  refine a2 F B vs H σ p x p1 _ r e1 fun v H1 B1 s1 r1 d1 => ?_
  cases d1 with
  | bl c =>
    cases e
    exact ⟨c, rfl, k _ H1 B1 s1 r1 (.bl _)⟩
  | _ => cases e
def xIf (χ : SB π) (α β : SE π) : SE π := fun σ p => (χ σ p).bind fun x => if x.1 = true then α σ x.2 else β σ x.2
def xIfL (χ : SB π) (α β : SL π) : SL π := fun σ p => (χ σ p).bind fun x => if x.1 = true then α σ x.2 else β σ x.2
theorem fe_if {c : Expr} (hc : FT S N sc Z c φ) (ha : FE S N sc Z a α) (hb : FE S N sc Z b β) : FE S N sc Z (.IfExp c a b pos) (xIf φ α β) := by
  obtain ⟨t, c1, c2⟩ := hc.ex
  obtain ⟨u, a1, a2⟩ := ha.ex
  obtain ⟨w, b1, b2⟩ := hb.ex
  refine ⟨_, fun X hX => pe_ifExp (c1 X hX) (a1 X hX) (b1 X hX), fun F B vs H σ p d p' Q r e k => ?_⟩
  obtain ⟨⟨x, p1⟩, e1, e⟩ := bnd e
  refine c2 F B vs H σ p x p1 _ r e1 fun H1 B1 s1 r1 => ?_
  cases x with
  | true => exact a2 F B1 vs H1 σ p1 d p' Q r1 e fun w H2 B2 s2 r2 dw => k w H2 B2 (s1.trans s2) r2 dw
  | false => exact b2 F B1 vs H1 σ p1 d p' Q r1 e fun w H2 B2 s2 r2 dw => k w H2 B2 (s1.trans s2) r2 dw
/-- two comparisons, the middle one asked once -/
def xChain (f g : D → D → Option D) (α β γ : SE π) : SE π := fun σ p => (α σ p).bind fun x => (β σ x.2).bind fun y => (f x.1 y.1).bind fun c => match c with
  | .bool true => (γ σ y.2).bind fun z => (g y.1 z.1).map fun w => (w, z.2)
  | .bool false => some (.bool false, y.2)
  | _ => none

/-! ### arguments, displays -/
def aNil : SL π := fun _ p => some ([], p)
def aCons (α : SE π) (ω : SL π) : SL π := fun σ p => (α σ p).bind fun x => (ω σ x.2).map fun y => (x.1 :: y.1, y.2)
variable {ω : SL π}
theorem fa_nil : FA S N sc Z [] aNil := ⟨_, fun _ _ => pa_nil, fun F B vs H σ p ds p' Q r e k => by
  cases e
  exact k [] H B (Same.refl B) r .nil⟩
theorem fa_cons (ha : FE S N sc Z e α) (hr : FA S N sc Z es ω) (hs : ∀ X : Cx, starEach (e :: es) X.env = (false, eval e X.env) :: starEach es X.env := by intro _; rfl) : FA S N sc Z (e :: es) (aCons α ω) := by
  obtain ⟨t, a1, a2⟩ := ha.ex
  obtain ⟨u, b1, b2⟩ := hr.ex
  refine ⟨_, fun X hX => pa_cons (a1 X hX) (b1 X hX) (hs X), fun F B vs H σ p ds p' Q r q k => ?_⟩
  obtain ⟨⟨x, p1⟩, e1, q⟩ := bnd q
  obtain ⟨⟨y, p2⟩, e2, e3⟩ := mpd q
  cases e3
  refine a2 F B vs H σ p x p1 _ r e1 fun v H1 B1 s1 r1 d1 => ?_
  exact b2 F B1 vs H1 σ p1 y p2 _ r1 e2 fun xs H2 B2 s2 r2 d2 => k _ H2 B2 (s1.trans s2) r2 (.cons (Dq_up s2 x v d1) d2)
def xTup (ω : SL π) : SE π := fun σ p => (ω σ p).bind fun x => if x.1.length ≤ sizeLine then some (.tuple x.1, x.2) else none
def lDisp (ω : SL π) : SL π := fun σ p => (ω σ p).bind fun x => if x.1.length ≤ sizeLine then some x else none
theorem fe_tup {x1} (h : FA S N sc Z es ω) : FE S N sc Z (.Tuple es x1 pos) (xTup ω) := by
  obtain ⟨t, a1, a2⟩ := h.ex
  refine ⟨_, fun X hX => pe_tup (a1 X hX), fun F B vs H σ p d p' Q r q k => ?_⟩
  obtain ⟨⟨x, p1⟩, e1, q⟩ := bnd q
  have q : (if x.length ≤ sizeLine then some (PyData.tuple x, p1) else none) = some (d, p') := q
  split at q
  · rename_i hl
    cases q
    refine a2 F B vs H σ p _ _ _ r e1 fun xs H1 B1 s1 r1 d1 => ⟨by rw [DqAll.len d1]; exact hl, fun a ha => ?_⟩
    have gr : Gr B1 H1 (upd B1 a (.tup xs)) (upd H1 a (.tup xs)) := Gr.new r1.sub ha
    exact k _ _ _ (s1.trans gr.b) (r1.grow gr) (.tup (SqT.of upd_same) (DqA_up gr.b _ xs d1))
  · cases q
theorem newL_of {K : PySem.W.Frag} {F : Fx} {B B' : Hp} {vs : L2.St} {H H' : Hp} {σ : Sg} {p : π} {a : Addr} {ys : List V} {ds : List D} (r : Rep K Z F B vs H σ p) (gr : Gr B H B' H') (ha : H a = none) (hb : B' a = none)
    (h1 : H' a = some (.lst ys)) (h2 : DqAll K B' ys ds) : NewL K Z F B' vs H' σ p a ds where
  rep := r.grow gr
  is := ⟨ys, h1, h2⟩
  nB := hb
  n0 := by
    cases e : F.H0 a with
    | none => rfl
    | some o =>
      by_cases z : a ∈ Z.fp F.pa F.g
      · exact absurd ha (Z.trk _ _ _ _ r.pok a z)
      · rw [r.old a o z e] at ha; cases ha
  nN := fun z => r.noH a z ha
  nS := fun i es e q => by
    obtain ⟨b, xs, g1, g2, _⟩ := r.own i es e
    rw [q] at g1
    cases g1
    rw [ha] at g2
    cases g2
theorem fl_disp (h : FA S N sc Z es ω) : FL S N sc Z (.List es pos) (lDisp ω) := by
  obtain ⟨t, a1, a2⟩ := h.ex
  refine ⟨_, fun X hX => pe_lst (a1 X hX), fun F B vs H σ p d p' Q r q k => ?_⟩
  obtain ⟨⟨x, p1⟩, e1, q⟩ := bnd q
  have q : (if x.length ≤ sizeLine then some (x, p1) else none) = some (d, p') := q
  split at q
  · rename_i hl
    cases q
    refine a2 F B vs H σ p _ _ _ r e1 fun xs H1 B1 s1 r1 d1 => ⟨by rw [DqAll.len d1]; exact hl, fun a ha => ?_⟩
    exact k _ _ B1 s1 (newL_of r1 (Gr.lay r1.sub ha) ha (r1.sub.free ha) upd_same d1)
  · cases q

/-! ### calls by values -/
def xCall (f : List D → Option D) (ω : SL π) : SE π := fun σ p => (ω σ p).bind fun x => (f x.1).map fun z => (z, x.2)
def lCall (f : List D → Option (List D)) (ω : SL π) : SL π := fun σ p => (ω σ p).bind fun x => (f x.1).map fun z => (z, x.2)
theorem sem_call {K : PySem.W.Frag} {r : List V → Hp → VK → Prop} {f : List D → Option D} {ta : TA} (h : ValN K r f) (ha : SemA K Z ta ω) : SemE K Z (tCB r ta) (xCall f ω) := by
  intro F B vs H σ p d p' Q rp e k
  obtain ⟨⟨x, p1⟩, e1, e⟩ := bnd e
  obtain ⟨z, e3, e4⟩ := mpd e
  cases e4
  refine ha F B vs H σ p x p1 _ rp e1 fun v H1 B1 s1 r1 d1 => ?_
  exact h B1 H1 v x _ Q r1.sub d1 e3 fun w H3 B3 gr dw => k w H3 B3 (s1.trans gr.b) (r1.grow gr) dw
theorem sem_callL {K : PySem.W.Frag} {r : List V → Hp → VK → Prop} {f : List D → Option (List D)} {ta : TA} (h : ValNL K r f) (ha : SemA K Z ta ω) : SemL K Z (tCB r ta) (lCall f ω) := by
  intro F B vs H σ p d p' Q rp e k
  obtain ⟨⟨x, p1⟩, e1, e⟩ := bnd e
  obtain ⟨z, e3, e4⟩ := mpd e
  cases e4
  refine ha F B vs H σ p x p1 _ rp e1 fun v H1 B1 s1 r1 d1 => ?_
  exact h B1 H1 v x _ Q r1.sub d1 e3 fun a ys H3 B3 gr ha hb h1 h2 => k a H3 B3 (s1.trans gr.b) (newL_of r1 gr ha hb h1 h2)
variable {x : Str} {q1 : Pos} {id T : String} {r : List V → Hp → VK → Prop} {f : List D → Option D} {fl : List D → Option (List D)}
def Gb (sc : Scope) (x : Str) : Prop := sc.names.lookup x = some .globalImplicit
theorem gl_of {X : Cx} (hX : Fam S N sc X) (h : Gb sc x) : Gl X x := by
  obtain ⟨_, s0, H0, env, outer, stack, ex, fn, pn, hs, e⟩ := hX
  subst e
  show env.scope.names.lookup x = _
  rw [hs]; exact h
theorem mg_of {X : Cx} (hX : Fam S N sc X) : X.mg = S.mg := by
  obtain ⟨_, s0, H0, env, outer, stack, ex, fn, pn, hs, e⟩ := hX
  subst e; rfl
theorem fe_callB (hc : ∀ X, Fam S N sc X → CallR X (.builtin id) r) (hv : ValN S.K r f) (hg : Gb sc x) (hm : S.mg x = none) (hb : bootBuiltins x = some (.builtin id)) (ha : FA S N sc Z (e :: es) ω) (hn : x ≠ "__name__" := by decide) (hdb : (x == ("__debug__" : Str)) = false := by decide)
    (he : ∀ X : Cx, starEach (e :: es) X.env = (false, eval e X.env) :: starEach es X.env := by intro _; rfl) (hpl : ∀ X : Cx, (backTo pos (starEach es X.env)).any (·.1) = false := by intro _; rfl) :
    FE S N sc Z (.Call (.Name x q1) (e :: es) [] pos) (xCall f ω) := by
  obtain ⟨t, a1, a2⟩ := ha.ex
  exact ⟨_, fun X hX => pe_callB (hc X hX) (gl_of hX hg) (by rw [mg_of hX]; exact hm) hb (a1 X hX) hn hdb (he X) (hpl X), sem_call hv a2⟩
theorem fe_callTy (hc : ∀ X, Fam S N sc X → CallR X (.type T) r) (hv : ValN S.K r f) (hg : Gb sc x) (hm : S.mg x = none) (hb : bootBuiltins x = some (.type T)) (ha : FA S N sc Z (e :: es) ω) (hn : x ≠ "__name__" := by decide) (hdb : (x == ("__debug__" : Str)) = false := by decide)
    (he : ∀ X : Cx, starEach (e :: es) X.env = (false, eval e X.env) :: starEach es X.env := by intro _; rfl) (hpl : ∀ X : Cx, (backTo pos (starEach es X.env)).any (·.1) = false := by intro _; rfl) :
    FE S N sc Z (.Call (.Name x q1) (e :: es) [] pos) (xCall f ω) := by
  obtain ⟨t, a1, a2⟩ := ha.ex
  exact ⟨_, fun X hX => pe_callTy (hc X hX) (gl_of hX hg) (by rw [mg_of hX]; exact hm) hb (a1 X hX) hn hdb (he X) (hpl X), sem_call hv a2⟩
theorem fl_callB (hc : ∀ X, Fam S N sc X → CallR X (.builtin id) r) (hv : ValNL S.K r fl) (hg : Gb sc x) (hm : S.mg x = none) (hb : bootBuiltins x = some (.builtin id)) (ha : FA S N sc Z (e :: es) ω) (hn : x ≠ "__name__" := by decide) (hdb : (x == ("__debug__" : Str)) = false := by decide)
    (he : ∀ X : Cx, starEach (e :: es) X.env = (false, eval e X.env) :: starEach es X.env := by intro _; rfl) (hpl : ∀ X : Cx, (backTo pos (starEach es X.env)).any (·.1) = false := by intro _; rfl) :
    FL S N sc Z (.Call (.Name x q1) (e :: es) [] pos) (lCall fl ω) := by
  obtain ⟨t, a1, a2⟩ := ha.ex
  exact ⟨_, fun X hX => pe_callB (hc X hX) (gl_of hX hg) (by rw [mg_of hX]; exact hm) hb (a1 X hX) hn hdb (he X) (hpl X), sem_callL hv a2⟩
theorem fl_callTy (hc : ∀ X, Fam S N sc X → CallR X (.type T) r) (hv : ValNL S.K r fl) (hg : Gb sc x) (hm : S.mg x = none) (hb : bootBuiltins x = some (.type T)) (ha : FA S N sc Z (e :: es) ω) (hn : x ≠ "__name__" := by decide) (hdb : (x == ("__debug__" : Str)) = false := by decide)
    (he : ∀ X : Cx, starEach (e :: es) X.env = (false, eval e X.env) :: starEach es X.env := by intro _; rfl) (hpl : ∀ X : Cx, (backTo pos (starEach es X.env)).any (·.1) = false := by intro _; rfl) :
    FL S N sc Z (.Call (.Name x q1) (e :: es) [] pos) (lCall fl ω) := by
  obtain ⟨t, a1, a2⟩ := ha.ex
  exact ⟨_, fun X hX => pe_callTy (hc X hX) (gl_of hX hg) (by rw [mg_of hX]; exact hm) hb (a1 X hX) hn hdb (he X) (hpl X), sem_callL hv a2⟩
end
end FL

namespace FL
open PySem PySem.Spec PyProof.Rows L2

/-! ### statements -/
inductive Out (π : Type) where
  | nx (σ : Sg) (p : π)
  | rt (d : D) (p : π)
  | bk (σ : Sg) (p : π)
  | ct (σ : Sg) (p : π)
abbrev SS (π : Type) := Sg → π → Option (Out π)
def Fits {π : Type} (K : PySem.W.Frag) (Z : PotK π) (F : Fx) (B : Hp) (E : Ends) : Out π → Prop
  | .nx σ p => ∀ vs H' B', Same B B' → Rep K Z F B' vs H' σ p → E.nx vs H'
  | .rt d p => ∀ v vs H' B' σ, Same B B' → Rep K Z F B' vs H' σ p → Dq K B' v d → E.rt v H'
  | .bk σ p => ∀ vs H' B', Same B B' → Rep K Z F B' vs H' σ p → E.bk vs H'
  | .ct σ p => ∀ vs H' B', Same B B' → Rep K Z F B' vs H' σ p → E.ct vs H'
theorem Fits.up {π : Type} {K : PySem.W.Frag} {Z : PotK π} {F : Fx} {B B1 : Hp} {E : Ends} {o : Out π} (s : Same B B1) (h : Fits K Z F B E o) : Fits K Z F B1 E o := by
  cases o with
  | nx σ p => exact fun vs H' B' s' r => h vs H' B' (s.trans s') r
  | rt d p => exact fun v vs H' B' σ s' r => h v vs H' B' σ (s.trans s') r
  | bk σ p => exact fun vs H' B' s' r => h vs H' B' (s.trans s') r
  | ct σ p => exact fun vs H' B' s' r => h vs H' B' (s.trans s') r
def SemS {π : Type} (K : PySem.W.Frag) (Z : PotK π) (ts : TS) (ψ : SS π) : Prop :=
  ∀ (F : Fx) (B : Hp) (vs : L2.St) (H : Hp) (σ : Sg) (p : π) (o : Out π) (E : Ends),
    Rep K Z F B vs H σ p → ψ σ p = some o → Fits K Z F B E o → ts E vs H
structure FS {π : Type} (S : Sta) (N : List Str) (sc : Scope) (Z : PotK π) (st : Stmt) (ψ : SS π) : Prop where
  ex : ∃ ts, (∀ X, Fam1 S N sc X → PS X st ts) ∧ SemS S.K Z ts ψ
structure FSs {π : Type} (S : Sta) (N : List Str) (sc : Scope) (Z : PotK π) (st : List Stmt) (ψ : SS π) : Prop where
  ex : ∃ ts, (∀ X, Fam1 S N sc X → PSs X st ts) ∧ SemS S.K Z ts ψ
/-- a fact of the scope alone -/
def InSc (sc : Scope) (P : Env → Prop) : Prop := ∀ env : Env, env.scope = sc → P env
theorem InSc.at {sc : Scope} {P : Env → Prop} {S : Sta} {N : List Str} {X : Cx} (h : InSc sc P) (hX : Fam S N sc X) : P X.env := by
  obtain ⟨_, s0, H0, env, outer, stack, ex, fn, pn, hs, e⟩ := hX
  subst e; exact h env hs

section
variable {π : Type} {Z : PotK π} {S : Sta} {N : List Str} {sc : Scope} {e a b : Expr} {es : List Expr} {pos : Pos} {st : Stmt} {rest : List Stmt} {ψ χ : SS π} {α β : SE π} {φ : SB π} {ω : SL π}
def sNil : SS π := fun σ p => some (.nx σ p)
def sSeq (ψ χ : SS π) : SS π := fun σ p => match ψ σ p with
  | some (.nx σ' p') => χ σ' p'
  | o => o
theorem fs_nil : FSs S N sc Z [] (sNil (π := π)) := ⟨_, fun _ _ => pss_nil, fun F B vs H σ p o E r e h => by
  cases e
  exact h vs H B (Same.refl B) r⟩
theorem fs_cons (h1 : FS S N sc Z st ψ) (h2 : FSs S N sc Z rest χ) : FSs S N sc Z (st :: rest) (sSeq ψ χ) := by
  obtain ⟨t, a1, a2⟩ := h1.ex
  obtain ⟨u, b1, b2⟩ := h2.ex
  refine ⟨_, fun X hX => pss_cons (a1 X hX) (b1 X hX), fun F B vs H σ p o E r e h => ?_⟩
  unfold sSeq at e
  cases c : ψ σ p with
  | none => rw [c] at e; cases e
  | some w =>
    rw [c] at e
    refine a2 F B vs H σ p w _ r c ?_
    cases w with
    | nx σ1 p1 => exact fun vs1 H1 B1 s1 r1 => b2 F B1 vs1 H1 σ1 p1 o E r1 e (h.up s1)
    | rt d p1 =>
      cases e
      exact h
    | bk σ1 p1 =>
      cases e
      exact h
    | ct σ1 p1 =>
      cases e
      exact h
theorem fs_one (h1 : FS S N sc Z st ψ) : FSs S N sc Z [st] ψ := by
  obtain ⟨t, a1, a2⟩ := h1.ex
  exact ⟨_, fun X hX => pss_one (a1 X hX), a2⟩
theorem fs_pass : FS S N sc Z (.Pass pos) (sNil (π := π)) := ⟨_, fun _ _ => ps_pass, fun F B vs H σ p o E r e h => by
  cases e
  exact h vs H B (Same.refl B) r⟩
theorem fs_doc {x : Str} {j} {pos' : Pos} : FS S N sc Z (.Expr (.Constant (.str x) j pos) pos') (sNil (π := π)) := ⟨_, fun _ _ => ps_doc, fun F B vs H σ p o E r e h => by
  cases e
  exact h vs H B (Same.refl B) r⟩
def sBrk : SS π := fun σ p => some (.bk σ p)
def sCnt : SS π := fun σ p => some (.ct σ p)
theorem fs_brk : FS S N sc Z (.Break pos) (sBrk (π := π)) := ⟨_, fun _ _ => ps_break, fun F B vs H σ p o E r e h => by
  cases e
  exact h vs H B (Same.refl B) r⟩
theorem fs_cnt : FS S N sc Z (.Continue pos) (sCnt (π := π)) := ⟨_, fun _ _ => ps_continue, fun F B vs H σ p o E r e h => by
  cases e
  exact h vs H B (Same.refl B) r⟩
def sRet (α : SE π) : SS π := fun σ p => (α σ p).map fun x => .rt x.1 x.2
theorem fs_ret (h : FE S N sc Z e α) : FS S N sc Z (.Return (some e) pos) (sRet α) := by
  obtain ⟨t, a1, a2⟩ := h.ex
  refine ⟨_, fun X hX => ps_ret (a1 X hX.1), fun F B vs H σ p o E r e h => ?_⟩
  obtain ⟨⟨x, p1⟩, e1, e2⟩ := mpd e
  cases e2
  exact a2 F B vs H σ p x p1 _ r e1 fun v H1 B1 s1 r1 d1 => h v vs H1 B1 σ s1 r1 d1
def sRetN : SS π := fun _ p => some (.rt .none p)
theorem fs_retN : FS S N sc Z (.Return none pos) (sRetN (π := π)) := ⟨_, fun _ _ => ps_retN, fun F B vs H σ p o E r e h => by
  cases e
  exact h _ vs H B σ (Same.refl B) r .non⟩
def sDrop (α : SE π) : SS π := fun σ p => (α σ p).map fun x => .nx σ x.2
theorem fs_drop (h : FE S N sc Z e α) (hs : InSc sc fun env => swapsWith e none pos.line env = pure false := by intro env h; cases env; cases h; rfl) : FS S N sc Z (.Expr e pos) (sDrop α) := by
  obtain ⟨t, a1, a2⟩ := h.ex
  refine ⟨_, fun X hX => ps_expr (a1 X hX.1) (hs.at hX.1), fun F B vs H σ p o E r e h => ?_⟩
  obtain ⟨⟨x, p1⟩, e1, e2⟩ := mpd e
  cases e2
  exact a2 F B vs H σ p x p1 _ r e1 fun v H1 B1 s1 r1 d1 => h vs H1 B1 s1 r1
def sIf (φ : SB π) (ψ χ : SS π) : SS π := fun σ p => (φ σ p).bind fun x => if x.1 = true then ψ σ x.2 else χ σ x.2
theorem fs_if {c : Expr} {x y : List Stmt} (hc : FT S N sc Z c φ) (h1 : FSs S N sc Z x ψ) (h2 : FSs S N sc Z y χ) : FS S N sc Z (.If c x y pos) (sIf φ ψ χ) := by
  obtain ⟨t, c1, c2⟩ := hc.ex
  obtain ⟨u, a1, a2⟩ := h1.ex
  obtain ⟨w, b1, b2⟩ := h2.ex
  refine ⟨_, fun X hX => ps_if (c1 X hX.1) (a1 X hX) (b1 X hX), fun F B vs H σ p o E r e h => ?_⟩
  obtain ⟨⟨x, p1⟩, e1, e⟩ := bnd e
  refine c2 F B vs H σ p x p1 _ r e1 fun H1 B1 s1 r1 => ?_
  cases x with
  | true => exact a2 F B1 vs H1 σ p1 o E r1 e (h.up s1)
  | false => exact b2 F B1 vs H1 σ p1 o E r1 e (h.up s1)

/-! ### assignments -/
/-- x = e, the value known -/
def sSet (i : Nat) (α : SE π) : SS π := fun σ p => (α σ p).map fun x => .nx (σ.set i (.val x.1)) x.2
/-- x = e, a list of one's own -/
def sSetL (i : Nat) (ω : SL π) : SS π := fun σ p => (ω σ p).map fun x => .nx (σ.set i (.own x.1)) x.2
theorem sem_set {K : PySem.W.Frag} {te : TE} (i : Nat) (h : SemE K Z te α) : SemS K Z (tAsg te (gName i)) (sSet i α) := by
  intro F B vs H σ p o E r e h'
  obtain ⟨⟨x, p1⟩, e1, e2⟩ := mpd e
  cases e2
  exact h F B vs H σ p x p1 _ r e1 fun v H1 B1 s1 r1 d1 => h' _ H1 B1 s1 (r1.set i d1)
theorem sem_setL {K : PySem.W.Frag} {te : TE} (i : Nat) (h : SemL K Z te ω) : SemS K Z (tAsg te (gName i)) (sSetL i ω) := by
  intro F B vs H σ p o E r e h'
  obtain ⟨⟨x, p1⟩, e1, e2⟩ := mpd e
  cases e2
  refine h F B vs H σ p x p1 _ r e1 fun a H1 B1 s1 n => ?_
  obtain ⟨xs, g1, g2⟩ := n.is
  exact h' _ H1 B1 s1 (n.rep.setL i g1 g2 n.nB n.n0 n.nN fun j es _ q => n.nS j es q)
theorem set_at {X : Cx} {x : Str} {q : Pos} {i : Nat} {te : TE} (hX : Fam1 S N sc X) (hi : N[i]? = some x) (hx : Loc sc x) (he : PE X e te) (hs : swapsWith e (some (.Name x q)) pos.line X.env = pure false) : PS X (.Assign [.Name x q] e pos) (tAsg te (gName i)) := by
  obtain ⟨⟨nd, s0, H0, env, outer, stack, ex, fn, pn, hs', e⟩, hf⟩ := hX
  subst e
  exact ps_set nd hi (by show Loc env.scope x; rw [hs']; exact hx) he hs (.inl (hf x))
theorem fs_set {x : Str} {q : Pos} (i : Nat) (h : FE S N sc Z e α) (hi : N[i]? = some x := by rfl) (hx : Loc sc x := by first | exact Or.inl rfl | exact Or.inr rfl)
    (hs : InSc sc fun env => swapsWith e (some (.Name x q)) pos.line env = pure false := by intro env h; cases env; cases h; rfl) : FS S N sc Z (.Assign [.Name x q] e pos) (sSet i α) := by
  obtain ⟨t, a1, a2⟩ := h.ex
  exact ⟨_, fun X hX => set_at hX hi hx (a1 X hX.1) (hs.at hX.1), sem_set i a2⟩
theorem fs_setL {x : Str} {q : Pos} (i : Nat) (h : FL S N sc Z e ω) (hi : N[i]? = some x := by rfl) (hx : Loc sc x := by first | exact Or.inl rfl | exact Or.inr rfl)
    (hs : InSc sc fun env => swapsWith e (some (.Name x q)) pos.line env = pure false := by intro env h; cases env; cases h; rfl) : FS S N sc Z (.Assign [.Name x q] e pos) (sSetL i ω) := by
  obtain ⟨t, a1, a2⟩ := h.ex
  exact ⟨_, fun X hX => set_at hX hi hx (a1 X hX.1) (hs.at hX.1), sem_setL i a2⟩
theorem var_at {X : Cx} {x : Str} {q : Pos} {i : Nat} (hX : Fam S N sc X) (hi : N[i]? = some x) (hv : Vis sc x) (hd : (x == ("__debug__" : Str)) = false) (hcd : (x == ("__classdict__" : Str)) = false) : PE X (.Name x q) (tVar i) := by
  obtain ⟨nd, s0, H0, env, outer, stack, ex, fn, pn, hs', e⟩ := hX
  subst e
  exact pe_var (i := i) hi (by show Vis env.scope x; rw [hs']; exact hv) hd hcd
/-- x = y, y's list goes over to x -/
def sMove (i j : Nat) : SS π := fun σ p => match σ[j]? with
  | some (.own ds) => if i = j then none else some (.nx ((σ.set j .un).set i (.own ds)) p)
  | _ => none
theorem fs_move {x y : Str} {q q2 : Pos} (i j : Nat) (hi : N[i]? = some x := by rfl) (hj : N[j]? = some y := by rfl) (hx : Loc sc x := by first | exact Or.inl rfl | exact Or.inr rfl)
    (hv : Vis sc y := by first | exact Or.inl rfl | exact Or.inr (Or.inl rfl) | exact Or.inr (Or.inr rfl)) (hs : InSc sc fun env => swapsWith (.Name y q2) (some (.Name x q)) pos.line env = pure false := by intro env h; cases env; cases h; rfl)
    (hd : (y == ("__debug__" : Str)) = false := by decide) (hcd : (y == ("__classdict__" : Str)) = false := by decide) : FS S N sc Z (.Assign [.Name x q] (.Name y q2) pos) (sMove (π := π) i j) := by
  refine ⟨_, fun X hX => set_at hX hi hx (var_at hX.1 hj hv hd hcd) (hs.at hX.1), fun F B vs H σ p o E r e h => ?_⟩
  unfold sMove at e
  split at e
  · rename_i ds q
    split at e
    · cases e
    · rename_i ne
      cases e
      obtain ⟨c, xs, h1, h2, h3, h4, h5, h6⟩ := r.own j ds q
      refine ⟨_, h1, ?_⟩
      have r1 := r.drop j (some (.ref c))
      have hl : j < vs.length := (List.getElem?_eq_some_iff.mp h1).1
      have e0 : vs.set j (some (.ref c)) = vs := by
        apply List.ext_getElem?
        intro k
        by_cases z : j = k
        · subst z; rw [List.getElem?_set_self hl]; exact h1.symm
        · rw [List.getElem?_set_ne z]
      rw [e0] at r1
      refine h _ H B (Same.refl B) (r1.setL i h2 h3 h4 h5 h6 fun k es n w z => ?_)
      by_cases jk : j = k
      · subst jk
        rw [List.getElem?_set_self (List.getElem?_eq_some_iff.mp q).1] at w
        cases w
      · rw [List.getElem?_set_ne jk] at w
        exact jk (r.apart k j c es ds z h1 w q).symm
  · cases e
/-- ahead of a statement a list becomes known -/
def sFz (i : Nat) (ψ : SS π) : SS π := fun σ p => match σ[i]? with
  | some (.own ds) => ψ (σ.set i (.val (.list ds))) p
  | _ => ψ σ p
theorem sem_fz {K : PySem.W.Frag} {ts : TS} (i : Nat) (h : SemS K Z ts ψ) : SemS K Z ts (sFz i ψ) := by
  intro F B vs H σ p o E r e k
  unfold sFz at e
  split at e
  · rename_i ds q
    obtain ⟨B1, s1, r1⟩ := r.freeze q
    exact h F B1 vs H _ p o E r1 e (k.up s1)
  · exact h F B vs H σ p o E r e k
theorem fs_fz (i : Nat) (h : FS S N sc Z st ψ) : FS S N sc Z st (sFz i ψ) := by
  obtain ⟨t, a1, a2⟩ := h.ex
  exact ⟨t, a1, sem_fz i a2⟩

/-! ### lists of one's own, changed -/
theorem attr_base {X : Cx} {x : Str} {q : Pos} {m : Str} : True := trivial
/-- x.append(e) -/
def sApp (i : Nat) (α : SE π) : SS π := fun σ p => (α σ p).bind fun x => match σ[i]? with
  | some (.own ds) => if ds.length < sizeLine then some (.nx (σ.set i (.own (ds ++ [x.1]))) x.2) else none
  | _ => none
theorem sem_app {K : PySem.W.Frag} {ta : TA} (i : Nat) (h : SemA K Z ta (aCons α aNil)) : SemS K Z (tDrop (tBM K "list" rAppend (tVar i) ta)) (sApp i α) := by
  intro F B vs H σ p o E r e k
  obtain ⟨⟨x, p1⟩, e1, e⟩ := bnd e
  cases q : σ[i]? with
  | none => rw [q] at e; cases e
  | some w =>
    rw [q] at e
    cases w with
    | own ds =>
      have e : (if ds.length < sizeLine then some (Out.nx (σ.set i (Sl.own (ds ++ [x]))) p1) else none) = some o := e
      split at e
      · rename_i hl
        cases e
        obtain ⟨c, xs, h1, h2, h3, h4, h5, h6⟩ := r.own i ds q
        refine ⟨_, h1, .inl ⟨rfl, _, SqL.of h2⟩, ?_⟩
        refine h F B vs H σ p [x] p1 _ r (by unfold aCons; rw [e1]; rfl) fun ys H1 B1 s1 r1 d1 => ?_
        cases d1 with
        | cons dx dn =>
          cases dn
          obtain ⟨c', xs', g1, g2, g3, _⟩ := r1.own i ds q
          rw [h1] at g1
          cases g1
          refine ⟨_, _, _, rfl, rfl, g2, by rw [DqAll.len g3]; exact hl, ?_⟩
          exact k _ _ B1 s1 (r1.write q h1 (DqAll.app g3 (.cons dx .nil)))
      · cases e
    | _ => cases e
theorem fs_app {x : Str} {q q2 q3 : Pos} (i : Nat) (h : FA S N sc Z [e] (aCons α aNil)) (hi : N[i]? = some x := by rfl)
    (hv : Vis sc x := by first | exact Or.inl rfl | exact Or.inr (Or.inl rfl) | exact Or.inr (Or.inr rfl)) (hs : InSc sc fun env => swapsWith (.Call (.Attribute (.Name x q) "append" q2) [e] [] q3) none pos.line env = pure false := by intro env h; cases env; cases h; rfl)
    (hd : (x == ("__debug__" : Str)) = false := by decide) (hcd : (x == ("__classdict__" : Str)) = false := by decide)
    (hp : ∀ (X : Cx) (t : TA), PE X (.Name x q) (tVar i) → PA X [e] t → PE X (.Call (.Attribute (.Name x q) "append" q2) [e] [] q3) (tBM X.K "list" rAppend (tVar i) t) := by
      intro X t hn ht; exact pe_bm PySem.F.plainAttrs_list PySem.F.slot_list_append PySem.F.type_list_append mt_append hn ht) :
    FS S N sc Z (.Expr (.Call (.Attribute (.Name x q) "append" q2) [e] [] q3) pos) (sApp i α) := by
  obtain ⟨t, a1, a2⟩ := h.ex
  refine ⟨tDrop (tBM S.K "list" rAppend (tVar i) t), fun X hX => ?_, sem_app i a2⟩
  have hn := var_at (q := q) hX.1 hi hv hd hcd
  have ha := a1 X hX.1
  have hs' := hs.at hX.1
  obtain ⟨⟨nd, s0, H0, env, outer, stack, ex, fn, pn, _, e⟩, hf⟩ := hX
  subst e
  exact ps_expr (hp _ t hn ha) hs'
/-- x.extend(e), e a list of any making -/
def sExt (i : Nat) (α : SE π) : SS π := fun σ p => (α σ p).bind fun x => match σ[i]?, x.1 with
  | some (.own ds), .list es => if ds.length + es.length ≤ sizeLine then some (.nx (σ.set i (.own (ds ++ es))) x.2) else none
  | _, _ => none
theorem sem_ext {K : PySem.W.Frag} {ta : TA} (i : Nat) (h : SemA K Z ta (aCons α aNil)) : SemS K Z (tDrop (tBM K "list" rExtend (tVar i) ta)) (sExt i α) := by
  intro F B vs H σ p o E r e k
  obtain ⟨⟨x, p1⟩, e1, e⟩ := bnd e
  cases q : σ[i]? with
  | none => rw [q] at e; cases e
  | some w =>
    rw [q] at e
    cases w with
    | own ds =>
      cases x with
      | list es =>
        have e : (if ds.length + es.length ≤ sizeLine then some (Out.nx (σ.set i (Sl.own (ds ++ es))) p1) else none) = some o := e
        split at e
        · rename_i hl
          cases e
          obtain ⟨c, xs, h1, h2, h3, h4, h5, h6⟩ := r.own i ds q
          refine ⟨_, h1, .inl ⟨rfl, _, SqL.of h2⟩, ?_⟩
          refine h F B vs H σ p [.list es] p1 _ r (by unfold aCons; rw [e1]; rfl) fun ys H1 B1 s1 r1 d1 => ?_
          cases d1 with
          | cons dx dn =>
            cases dn
            cases dx with
            | lst hb hd =>
              obtain ⟨c', xs', g1, g2, g3, _⟩ := r1.own i ds q
              rw [h1] at g1
              cases g1
              refine ⟨_, _, _, _, rfl, rfl, g2, r1.sub _ _ hb, by rw [DqAll.len g3, DqAll.len hd]; exact hl, ?_⟩
              exact k _ _ B1 s1 (r1.write q h1 (DqAll.app g3 hd))
        · cases e
      | _ => cases e
    | _ => cases e
theorem fs_ext {x : Str} {q q2 q3 : Pos} (i : Nat) (h : FA S N sc Z [e] (aCons α aNil)) (hi : N[i]? = some x := by rfl)
    (hv : Vis sc x := by first | exact Or.inl rfl | exact Or.inr (Or.inl rfl) | exact Or.inr (Or.inr rfl)) (hs : InSc sc fun env => swapsWith (.Call (.Attribute (.Name x q) "extend" q2) [e] [] q3) none pos.line env = pure false := by intro env h; cases env; cases h; rfl)
    (hd : (x == ("__debug__" : Str)) = false := by decide) (hcd : (x == ("__classdict__" : Str)) = false := by decide)
    (hp : ∀ (X : Cx) (t : TA), PE X (.Name x q) (tVar i) → PA X [e] t → PE X (.Call (.Attribute (.Name x q) "extend" q2) [e] [] q3) (tBM X.K "list" rExtend (tVar i) t) := by
      intro X t hn ht; exact pe_bm PySem.F.plainAttrs_list PySem.F.slot_list_extend PySem.F.type_list_extend mt_extend hn ht) :
    FS S N sc Z (.Expr (.Call (.Attribute (.Name x q) "extend" q2) [e] [] q3) pos) (sExt i α) := by
  obtain ⟨t, a1, a2⟩ := h.ex
  refine ⟨tDrop (tBM S.K "list" rExtend (tVar i) t), fun X hX => ?_, sem_ext i a2⟩
  have hn := var_at (q := q) hX.1 hi hv hd hcd
  have ha := a1 X hX.1
  have hs' := hs.at hX.1
  obtain ⟨⟨nd, s0, H0, env, outer, stack, ex, fn, pn, _, e⟩, hf⟩ := hX
  subst e
  exact ps_expr (hp _ t hn ha) hs'
/-- a, b = e1, e2: two local names -/
def sPar (i j : Nat) (α β : SE π) : SS π := fun σ p => (α σ p).bind fun x => (β σ x.2).map fun y => .nx ((σ.set i (.val x.1)).set j (.val y.1)) y.2
theorem par_at {X : Cx} {x y : Str} {px py pt pt2 : Pos} {kt k2} {i j : Nat} {t : TA} (hX : Fam1 S N sc X) (ha : PA X [a, b] t) (hij : i ≠ j) (hi : N[i]? = some x) (hj : N[j]? = some y) (hx : sc.names.lookup x = some .local) (hy : sc.names.lookup y = some .local)
    (hw : swappedStores [.Tuple [.Name x px, .Name y py] kt pt] (.Tuple [a, b] k2 pt2) X.env = pure (some [x, y])) (hs : swapsWithSole [.Tuple [.Name x px, .Name y py] kt pt] (.Tuple [a, b] k2 pt2) pos.line X.env = pure false) :
    PS X (.Assign [.Tuple [.Name x px, .Name y py] kt pt] (.Tuple [a, b] k2 pt2) pos) (tPar i j t) := by
  obtain ⟨⟨nd, s0, H0, env, outer, stack, ex, fn, pn, hs', e⟩, hf⟩ := hX
  subst e
  exact ps_par rfl nd hi hj hij (by show env.scope.names.lookup x = _; rw [hs']; exact hx) (by show env.scope.names.lookup y = _; rw [hs']; exact hy) ha hw hs
theorem fs_par {x y : Str} {px py pt pt2 : Pos} {kt k2} (i j : Nat) (h : FA S N sc Z [a, b] (aCons α (aCons β aNil))) (hij : i ≠ j := by decide) (hi : N[i]? = some x := by rfl) (hj : N[j]? = some y := by rfl)
    (hx : sc.names.lookup x = some .local := by rfl) (hy : sc.names.lookup y = some .local := by rfl)
    (hw : InSc sc fun env => swappedStores [.Tuple [.Name x px, .Name y py] kt pt] (.Tuple [a, b] k2 pt2) env = pure (some [x, y]) := by intro env h; cases env; cases h; rfl)
    (hs : InSc sc fun env => swapsWithSole [.Tuple [.Name x px, .Name y py] kt pt] (.Tuple [a, b] k2 pt2) pos.line env = pure false := by intro env h; cases env; cases h; rfl) :
    FS S N sc Z (.Assign [.Tuple [.Name x px, .Name y py] kt pt] (.Tuple [a, b] k2 pt2) pos) (sPar i j α β) := by
  obtain ⟨t, a1, a2⟩ := h.ex
  refine ⟨tPar i j t, fun X hX => par_at hX (a1 X hX.1) hij hi hj hx hy (hw.at hX.1) (hs.at hX.1), fun F B vs H σ p o E r e k => ?_⟩
  obtain ⟨⟨x, p1⟩, e1, e⟩ := bnd e
  obtain ⟨⟨y, p2⟩, e2, e3⟩ := mpd e
  cases e3
  refine a2 F B vs H σ p [x, y] p2 _ r (by unfold aCons; rw [e1]; show ((β σ p1).bind _).map _ = _; rw [e2]; rfl) fun ys H1 B1 s1 r1 d1 => ?_
  cases d1 with
  | cons dx dn =>
    cases dn with
    | cons dy dn =>
      cases dn
      exact ⟨_, _, rfl, k _ H1 B1 s1 ((r1.set i dx).set j dy)⟩
end
end FL

namespace FL
open PySem PySem.Spec PyProof.Rows L2

/-! ### what is walked -/
structure ItOk (K : PySem.W.Frag) (J : It) (B : Hp) (ds : List D) : Prop where
  stop : ∀ (i : Nat) (H : Hp), Same B H → ds.length = i → J.stop i H
  go : ∀ (i : Nat) (H : Hp), Same B H → i < ds.length → J.go i H
  yld : ∀ (i : Nat) (H : Hp) (x : V) (H' : Hp) (d : D), Same B H → J.yld i H x H' → ds[i]? = some d →
    ∀ B2, Same B B2 → Same B2 H → ∃ B3, Gr B2 H B3 H' ∧ Dq K B3 x d
def SemI {π : Type} (K : PySem.W.Frag) (Z : PotK π) (wi : TI) (φ : SL π) : Prop :=
  ∀ (F : Fx) (B : Hp) (vs : L2.St) (H : Hp) (σ : Sg) (p : π) (ds : List D) (p' : π) (R : It → Hp → Prop),
    Rep K Z F B vs H σ p → φ σ p = some (ds, p') →
    (∀ J H' B', Same B B' → Rep K Z F B' vs H' σ p' → ItOk K J B' ds → R J H') → wi vs H R
structure FI {π : Type} (S : Sta) (N : List Str) (sc : Scope) (Z : PotK π) (tg it : Expr) (φ : SL π) : Prop where
  ex : ∃ wi, (∀ X, Fam S N sc X → PI X tg it wi) ∧ SemI S.K Z wi φ
theorem it_list {K : PySem.W.Frag} {B : Hp} {a : Addr} {xs : List V} {ds : List D} (h : B a = some (.lst xs)) (hd : DqAll K B xs ds) : ItOk K (Itl K a) B ds where
  stop := fun i H s hi => have hi := Nat.le_of_eq hi; ⟨xs, SqL.of (s a _ h), by rw [DqAll.len hd]; exact hi⟩
  go := fun i H s hi => by
    have hx : i < xs.length := by rw [DqAll.len hd]; exact hi
    exact ⟨xs, xs[i], SqL.of (s a _ h), List.getElem?_eq_getElem hx⟩
  yld := fun i H x H' d s y e B2 s1 s2 => by
    obtain ⟨eH, y⟩ := y
    subst eH
    exact ⟨B2, Gr.refl s2, Dq_up s1 d x (DqAll.at hd (y xs (SqL.of (s a _ h))) e)⟩
theorem it_tup {K : PySem.W.Frag} {B : Hp} {a : Addr} {xs : List V} {ds : List D} (h : SqT K B a xs) (hd : DqAll K B xs ds) : ItOk K (Itt K a) B ds where
  stop := fun i H s hi => have hi := Nat.le_of_eq hi; ⟨xs, sq_t s h, by rw [DqAll.len hd]; exact hi⟩
  go := fun i H s hi => by
    have hx : i < xs.length := by rw [DqAll.len hd]; exact hi
    exact ⟨xs, xs[i], sq_t s h, List.getElem?_eq_getElem hx⟩
  yld := fun i H x H' d s y e B2 s1 s2 => by
    obtain ⟨eH, y⟩ := y
    subst eH
    exact ⟨B2, Gr.refl s2, Dq_up s1 d x (DqAll.at hd (y xs (sq_t s h)) e)⟩
/-- a list or a tuple -/
def iSeq (K : PySem.W.Frag) (tl : TE) : TI := fun σ H R => tl σ H fun x H1 => ∃ a, x = V.ref a ∧
  (((∃ xs, SqL K H1 a xs) ∧ R (Itl K a) H1) ∨ ((∃ xs, SqT K H1 a xs) ∧ R (Itt K a) H1))
theorem pi_seq {X : Cx} {tg l : Expr} {tl : TE} (hl : PE X l tl) : PI X tg l (iSeq X.K tl) := by
  refine ⟨fun pins s σ H R I h => thn (hl.run pins s σ H _ I h) fun v s1 ⟨x, H1, I1, r1, q1⟩ => ?_⟩
  obtain ⟨a, e, q⟩ := q1
  subst e
  cases r1
  have hfr : ∀ b, b ∈ [s1.heap.objs.size] → FpOk X pins H1 b := fun b hb => by
    obtain rfl : b = s1.heap.objs.size := by simpa using hb
    exact I1.fpOk (Nat.le_refl _) (I1.hok.fresh (Nat.le_refl _))
  rcases q with ⟨⟨xs, hq⟩, q⟩ | ⟨⟨xs, hq⟩, q⟩
  · obtain ⟨its, rv, p, hz⟩ := I1.list hq
    exact wpAny_pyIter_list p.isList ⟨_, _, _, _, H1, rfl, I1.kept (t' := s1.toks) fun b o e => Heap.get?_push_of_some _ e, turn_list a _,
      ⟨_, Heap.get?_push_size _ rfl, rfl, rfl⟩, hfr, q⟩
  · obtain ⟨its, rv, p, hz⟩ := I1.tuple hq
    exact wpAny_pyIter_tuple (show s1.heap.IsTuple a its.toArray from p) ⟨_, _, _, _, H1, rfl, I1.kept (t' := s1.toks) fun b o e => Heap.get?_push_of_some _ e, turn_tuple a _,
      ⟨_, Heap.get?_push_size _ rfl, rfl, rfl⟩, hfr, q⟩
def items : D → Option (List D)
  | .list ds => some ds
  | .tuple ds => some ds
  | _ => none
def iOf {π : Type} (α : SE π) : SL π := fun σ p => (α σ p).bind fun x => (items x.1).map fun ds => (ds, x.2)
def rngL (lo : Int) (n : Nat) : List D := (List.range n).map fun k => .int (lo + (k : Nat))
theorem rngL_get {lo : Int} {n i : Nat} {d : D} (h : (rngL lo n)[i]? = some d) : d = .int (lo + i) := by
  unfold rngL at h
  rw [List.getElem?_map] at h
  cases e : (List.range n)[i]? with
  | none => rw [e] at h; cases h
  | some k =>
    rw [e] at h
    obtain ⟨hk, e2⟩ := List.getElem?_eq_some_iff.mp e
    rw [List.getElem_range] at e2
    subst e2
    exact (Option.some.inj h).symm
theorem rngL_len {lo : Int} {n : Nat} : (rngL lo n).length = n := by unfold rngL; rw [List.length_map, List.length_range]
theorem it_rng {K : PySem.W.Frag} {B : Hp} {lo : Int} {n : Nat} : ItOk K (Itr lo n) B (rngL lo n) where
  stop := fun i H s hi => have hi := Nat.le_of_eq hi; by rw [rngL_len] at hi; exact hi
  go := fun i H s hi => by rw [rngL_len] at hi; exact hi
  yld := fun i H x H' d s y e B2 s1 s2 => by
    obtain ⟨eH, y⟩ := y
    subst eH y
    rw [rngL_get e]
    exact ⟨B2, Gr.refl s2, .int _⟩
def rngF1 : List D → Option (List D)
  | [.int j] => if -(2 ^ 62) ≤ j ∧ j < 2 ^ 62 then some (rngL 0 j.toNat) else none
  | _ => none
def rngF2 : List D → Option (List D)
  | [.int i, .int j] => if -(2 ^ 62) ≤ i ∧ i < 2 ^ 62 ∧ -(2 ^ 62) ≤ j ∧ j < 2 ^ 62 then some (rngL i (j - i).toNat) else none
  | _ => none
def iBy {π : Type} (f : List D → Option (List D)) (ω : SL π) : SL π := fun σ p => (ω σ p).bind fun x => (f x.1).map fun ds => (ds, x.2)
def enumL : Nat → List D → List D
  | _, [] => []
  | n, d :: r => .tuple [.int (n : Nat), d] :: enumL (n + 1) r
theorem enumL_len : ∀ (n : Nat) (ds : List D), (enumL n ds).length = ds.length
  | _, [] => rfl
  | n, d :: r => by rw [enumL, List.length_cons, List.length_cons, enumL_len (n + 1) r]
theorem enumL_get : ∀ (n : Nat) (ds : List D) (i : Nat) (d : D), (enumL n ds)[i]? = some d → ∃ e, ds[i]? = some e ∧ d = .tuple [.int ((n + i : Nat) : Int), e]
  | _, [], i, d, h => by simp [enumL] at h
  | n, e :: r, 0, d, h => by
    simp [enumL] at h
    exact ⟨e, rfl, h.symm⟩
  | n, e :: r, i + 1, d, h => by
    have h' : (enumL (n + 1) r)[i]? = some d := by simpa [enumL] using h
    obtain ⟨e2, h1, h2⟩ := enumL_get (n + 1) r i d h'
    refine ⟨e2, by simpa using h1, ?_⟩
    rw [h2, show n + 1 + i = n + (i + 1) by omega]
theorem it_enum {K : PySem.W.Frag} {B : Hp} {a : Addr} {xs : List V} {ds : List D} (h : B a = some (.lst xs)) (hd : DqAll K B xs ds) : ItOk K (Ite K a) B (enumL 0 ds) where
  stop := fun i H s hi => have hi := Nat.le_of_eq hi; ⟨xs, SqL.of (s a _ h), by rw [DqAll.len hd]; rw [enumL_len] at hi; exact hi⟩
  go := fun i H s hi => by
    have hx : i < xs.length := by rw [DqAll.len hd]; rw [enumL_len] at hi; exact hi
    exact ⟨xs, xs[i], SqL.of (s a _ h), List.getElem?_eq_getElem hx⟩
  yld := fun i H x H' d s y e B2 s1 s2 => by
    obtain ⟨T, w, e1, hT, e2, y⟩ := y
    subst e1 e2
    obtain ⟨d', g1, g2⟩ := enumL_get 0 ds i d e
    subst g2
    have gr : Gr B2 H (upd B2 T (.tup [.int (i : Nat), w])) (upd H T (.tup [.int (i : Nat), w])) := Gr.new s2 hT
    refine ⟨_, gr, .tup (SqT.of upd_same) (.cons ?_ (.cons (Dq_up (s1.trans gr.b) d' w (DqAll.at hd (y xs (SqL.of (s a _ h))) g1)) .nil))⟩
    rw [Nat.zero_add]
    exact .int _
def zipL : List D → List D → List D
  | x :: xs, y :: ys => .tuple [x, y] :: zipL xs ys
  | _, _ => []
def enumF : List D → Option (List D)
  | [.list ds] => some (enumL 0 ds)
  | _ => none
def zipF : List D → Option (List D)
  | [.list ds, .list es] => some (zipL ds es)
  | [.tuple ds, .tuple es] => some (zipL ds es)
  | _ => none
theorem zipL_get : ∀ (xs ys : List D) (i : Nat) (d : D), (zipL xs ys)[i]? = some d → ∃ x y, xs[i]? = some x ∧ ys[i]? = some y ∧ d = .tuple [x, y]
  | [], _, i, d, h => by simp [zipL] at h
  | _ :: _, [], i, d, h => by simp [zipL] at h
  | x :: xs, y :: ys, 0, d, h => by
    simp [zipL] at h
    exact ⟨x, y, rfl, rfl, h.symm⟩
  | x :: xs, y :: ys, i + 1, d, h => by
    have h' : (zipL xs ys)[i]? = some d := by simpa [zipL] using h
    obtain ⟨x2, y2, h1, h2, h3⟩ := zipL_get xs ys i d h'
    exact ⟨x2, y2, by simpa using h1, by simpa using h2, h3⟩
theorem zipL_len : ∀ (xs ys : List D), (zipL xs ys).length = min xs.length ys.length
  | [], _ => by simp [zipL]
  | _ :: _, [] => by simp [zipL]
  | x :: xs, y :: ys => by
    rw [zipL, List.length_cons, List.length_cons, List.length_cons, zipL_len xs ys]
    omega
theorem it_zipL {K : PySem.W.Frag} {B : Hp} {a b : Addr} {xs ys : List V} {ds es : List D} (h : B a = some (.lst xs)) (hd : DqAll K B xs ds) (h' : B b = some (.lst ys)) (he : DqAll K B ys es) : ItOk K (Itz K a b) B (zipL ds es) where
  stop := fun i H s hi => have hi := Nat.le_of_eq hi; ⟨xs, ys, SqL.of (s a _ h), SqL.of (s b _ h'), by rw [DqAll.len hd, DqAll.len he]; rw [zipL_len] at hi; omega⟩
  go := fun i H s hi => by
    rw [zipL_len, ← DqAll.len hd, ← DqAll.len he] at hi
    have hx : i < xs.length := by omega
    have hy : i < ys.length := by omega
    exact ⟨xs, ys, xs[i], ys[i], SqL.of (s a _ h), SqL.of (s b _ h'), List.getElem?_eq_getElem hx, List.getElem?_eq_getElem hy⟩
  yld := fun i H x H' d s y e B2 s1 s2 => by
    obtain ⟨T, w, z, e1, hT, e2, y1, y2⟩ := y
    subst e1 e2
    obtain ⟨d1, d2, g1, g2, g3⟩ := zipL_get ds es i d e
    subst g3
    have gr : Gr B2 H (upd B2 T (.tup [w, z])) (upd H T (.tup [w, z])) := Gr.new s2 hT
    exact ⟨_, gr, .tup (SqT.of upd_same) (.cons (Dq_up (s1.trans gr.b) d1 w (DqAll.at hd (y1 xs (SqL.of (s a _ h))) g1)) (.cons (Dq_up (s1.trans gr.b) d2 z (DqAll.at he (y2 ys (SqL.of (s b _ h'))) g2)) .nil))⟩
theorem it_zipT {K : PySem.W.Frag} {B : Hp} {a b : Addr} {xs ys : List V} {ds es : List D} (h : SqT K B a xs) (hd : DqAll K B xs ds) (h' : SqT K B b ys) (he : DqAll K B ys es) : ItOk K (RZ.ItzT K a b) B (zipL ds es) where
  stop := fun i H s hi => have hi := Nat.le_of_eq hi; ⟨xs, ys, sq_t s h, sq_t s h', by rw [DqAll.len hd, DqAll.len he]; rw [zipL_len] at hi; omega⟩
  go := fun i H s hi => by
    rw [zipL_len, ← DqAll.len hd, ← DqAll.len he] at hi
    have hx : i < xs.length := by omega
    have hy : i < ys.length := by omega
    exact ⟨xs, ys, xs[i], ys[i], sq_t s h, sq_t s h', List.getElem?_eq_getElem hx, List.getElem?_eq_getElem hy⟩
  yld := fun i H x H' d s y e B2 s1 s2 => by
    obtain ⟨T, w, z, e1, hT, e2, y1, y2⟩ := y
    subst e1 e2
    obtain ⟨d1, d2, g1, g2, g3⟩ := zipL_get ds es i d e
    subst g3
    have gr : Gr B2 H (upd B2 T (.tup [w, z])) (upd H T (.tup [w, z])) := Gr.new s2 hT
    exact ⟨_, gr, .tup (SqT.of upd_same) (.cons (Dq_up (s1.trans gr.b) d1 w (DqAll.at hd (y1 xs (sq_t s h)) g1)) (.cons (Dq_up (s1.trans gr.b) d2 z (DqAll.at he (y2 ys (sq_t s h')) g2)) .nil))⟩

section
variable {π : Type} {Z : PotK π} {S : Sta} {N : List Str} {sc : Scope} {e a b tg : Expr} {es elts : List Expr} {kk : Nat} {pos q1 tpos : Pos} {α β : SE π} {φ : SB π} {ω : SL π} {ψ : SS π}
theorem fi_seq (h : FE S N sc Z e α) : FI S N sc Z tg e (iOf α) := by
  obtain ⟨t, a1, a2⟩ := h.ex
  refine ⟨iSeq S.K t, fun X hX => ?_, fun F B vs H σ p ds p' R r e k => ?_⟩
  · have hp := a1 X hX
    obtain ⟨_, s0, H0, env, outer, stack, ex, fn, pn, hs, hx⟩ := hX
    subst hx
    exact pi_seq hp
  · obtain ⟨⟨x, p1⟩, e1, e⟩ := bnd e
    obtain ⟨ds', e2, e3⟩ := mpd e
    cases e3
    refine a2 F B vs H σ p x p1 _ r e1 fun v H1 B1 s1 r1 d1 => ?_
    cases d1 with
    | lst hs ha =>
      cases e2
      exact ⟨_, rfl, .inl ⟨⟨_, SqL.of (r1.sub _ _ hs)⟩, k _ H1 B1 s1 r1 (it_list hs ha)⟩⟩
    | tup hs ha =>
      cases e2
      exact ⟨_, rfl, .inr ⟨⟨_, sq_t r1.sub hs⟩, k _ H1 B1 s1 r1 (it_tup hs ha)⟩⟩
    | _ => cases e2
variable {f : List D → Option (List D)}
/-- a walk by a call on values -/
def ValI (K : PySem.W.Frag) (r : List V → Hp → (It → Hp → Prop) → Prop) (f : List D → Option (List D)) : Prop :=
  ∀ (B H : Hp) (xs : List V) (ds z : List D) (R : It → Hp → Prop), Same B H → DqAll K B xs ds → f ds = some z → (∀ J, ItOk K J B z → R J H) → r xs H R
theorem sem_iby {K : PySem.W.Frag} {r : List V → Hp → (It → Hp → Prop) → Prop} {ta : TA} (h : ValI K r f) (ha : SemA K Z ta ω) : SemI K Z (fun σ H R => ta σ H fun vs H1 => r vs H1 R) (iBy f ω) := by
  intro F B vs H σ p ds p' R rp e k
  obtain ⟨⟨x, p1⟩, e1, e⟩ := bnd e
  obtain ⟨ds', e2, e3⟩ := mpd e
  cases e3
  exact ha F B vs H σ p x p1 _ rp e1 fun v H1 B1 s1 r1 d1 => h B1 H1 v x _ R r1.sub d1 e2 fun J hJ => k J H1 B1 s1 r1 hJ
theorem vi_rng1 {K : PySem.W.Frag} : ValI K (fun vs H1 R => ∃ j : Int, vs = [.int j] ∧ -(2 ^ 62) ≤ j ∧ j < 2 ^ 62 ∧ R (Itr 0 j.toNat) H1) rngF1 := by
  intro B H xs ds z R s hd e k
  cases hd with
  | nil => cases e
  | cons dx dn =>
    cases dx with
    | int j =>
      cases dn with
      | nil =>
        have e : (if -(2 ^ 62) ≤ j ∧ j < 2 ^ 62 then some (rngL 0 j.toNat) else none) = some z := e
        split at e
        · rename_i hj
          cases e
          exact ⟨j, rfl, hj.1, hj.2, k _ it_rng⟩
        · cases e
      | cons _ _ => cases e
    | _ => cases e
theorem vi_rng2 {K : PySem.W.Frag} : ValI K (fun vs H1 R => ∃ i j : Int, vs = [.int i, .int j] ∧ (-(2 ^ 62) ≤ i ∧ i < 2 ^ 62 ∧ -(2 ^ 62) ≤ j ∧ j < 2 ^ 62) ∧ R (Itr i (j - i).toNat) H1) rngF2 := by
  intro B H xs ds z R s hd e k
  cases hd with
  | nil => cases e
  | cons dx dn =>
    cases dx with
    | int i =>
      cases dn with
      | nil => cases e
      | cons dy dn =>
        cases dy with
        | int j =>
          cases dn with
          | nil =>
            have e : (if -(2 ^ 62) ≤ i ∧ i < 2 ^ 62 ∧ -(2 ^ 62) ≤ j ∧ j < 2 ^ 62 then some (rngL i (j - i).toNat) else none) = some z := e
            split at e
            · rename_i hj
              cases e
              exact ⟨i, j, rfl, hj, k _ it_rng⟩
            · cases e
          | cons _ _ => cases e
        | _ => cases e
    | _ =>
      cases dn with
      | nil => cases e
      | cons _ dn => cases dn <;> cases e
theorem vi_enum {K : PySem.W.Frag} : ValI K (fun vs H1 R => ∃ a xs, vs = [.ref a] ∧ SqL K H1 a xs ∧ R (Ite K a) H1) enumF := by
  intro B H xs ds z R s hd e k
  cases hd with
  | nil => cases e
  | cons dx dn =>
    cases dx with
    | lst h1 h2 =>
      cases dn with
      | nil =>
        cases e
        exact ⟨_, _, rfl, SqL.of (s _ _ h1), k _ (it_enum h1 h2)⟩
      | cons _ _ => cases e
    | _ => cases e
theorem fi_rng1 (hg : Gb sc "range") (hm : S.mg "range" = none) (ha : FA S N sc Z [a] ω) (hs : ∀ X : Cx, starEach [a] X.env = [(false, eval a X.env)] := by intro _; rfl) : FI S N sc Z tg (.Call (.Name "range" q1) [a] [] pos) (iBy rngF1 ω) := by
  obtain ⟨t, a1, a2⟩ := ha.ex
  exact ⟨_, fun X hX => pi_range1 (gl_of hX hg) (by rw [mg_of hX]; exact hm) (a1 X hX) (hs X), sem_iby vi_rng1 a2⟩
theorem fi_rng2 (hg : Gb sc "range") (hm : S.mg "range" = none) (ha : FA S N sc Z [a, b] ω) (hs : ∀ X : Cx, starEach [a, b] X.env = [(false, eval a X.env), (false, eval b X.env)] := by intro _; rfl)
    (hs2 : ∀ X : Cx, starEach [b] X.env = [(false, eval b X.env)] := by intro _; rfl) : FI S N sc Z tg (.Call (.Name "range" q1) [a, b] [] pos) (iBy rngF2 ω) := by
  obtain ⟨t, a1, a2⟩ := ha.ex
  exact ⟨_, fun X hX => pi_range2 (gl_of hX hg) (by rw [mg_of hX]; exact hm) (a1 X hX) (hs X) (hs2 X), sem_iby vi_rng2 a2⟩
theorem fi_enum (hg : Gb sc "enumerate") (hm : S.mg "enumerate" = none) (ha : FA S N sc Z [a] ω) (hs : ∀ X : Cx, starEach [a] X.env = [(false, eval a X.env)] := by intro _; rfl) : FI S N sc Z (.Tuple elts kk tpos) (.Call (.Name "enumerate" q1) [a] [] pos) (iBy enumF ω) := by
  obtain ⟨t, a1, a2⟩ := ha.ex
  refine ⟨iEnum S.K t, fun X hX => ?_, sem_iby vi_enum a2⟩
  have hp := a1 X hX
  have g1 := gl_of hX hg
  have g2 := mg_of hX
  obtain ⟨_, s0, H0, env, outer, stack, ex, fn, pn, hs', hx⟩ := hX
  subst hx
  exact pi_enum g1 (by rw [g2]; exact hm) hp (hs _)

theorem vi_zip {K : PySem.W.Frag} : ValI K (fun vs H1 R => ∃ a b xs ys, vs = [V.ref a, .ref b] ∧ ((SqL K H1 a xs ∧ SqL K H1 b ys ∧ R (Itz K a b) H1) ∨ (SqT K H1 a xs ∧ SqT K H1 b ys ∧ R (RZ.ItzT K a b) H1))) zipF := by
  intro B H xs ds z R s hd e k
  cases hd with
  | nil => cases e
  | cons dx dn =>
    cases dn with
    | nil => cases dx <;> cases e
    | cons dy dn =>
      cases dn with
      | cons _ _ => cases dx <;> cases dy <;> cases e
      | nil =>
        cases dx with
        | lst h1 h2 =>
          cases dy with
          | lst g1 g2 =>
            cases e
            exact ⟨_, _, _, _, rfl, .inl ⟨SqL.of (s _ _ h1), SqL.of (s _ _ g1), k _ (it_zipL h1 h2 g1 g2)⟩⟩
          | _ => cases e
        | tup h1 h2 =>
          cases dy with
          | tup g1 g2 =>
            cases e
            exact ⟨_, _, _, _, rfl, .inr ⟨sq_t s h1, sq_t s g1, k _ (it_zipT h1 h2 g1 g2)⟩⟩
          | _ => cases e
        | _ => cases e
theorem fi_zip (hg : Gb sc "zip") (hm : S.mg "zip" = none) (ha : FA S N sc Z [a, b] ω) (hs : ∀ X : Cx, starEach [a, b] X.env = (false, eval a X.env) :: starEach [b] X.env := by intro _; rfl)
    (hpl : ∀ X : Cx, (backTo pos (starEach [b] X.env)).any (·.1) = false := by intro _; rfl) : FI S N sc Z (.Tuple elts kk tpos) (.Call (.Name "zip" q1) [a, b] [] pos) (iBy zipF ω) := by
  obtain ⟨t, a1, a2⟩ := ha.ex
  refine ⟨RZ.iZipA S.K t, fun X hX => ?_, sem_iby vi_zip a2⟩
  have hp := a1 X hX
  have g1 := gl_of hX hg
  have g2 := mg_of hX
  obtain ⟨_, s0, H0, env, outer, stack, ex, fn, pn, hs', hx⟩ := hX
  subst hx
  exact RZ.pi_zipA g1 (by rw [g2]; exact hm) hp (hs _) (hpl _)

/-! ### targets -/
def SemG (K : PySem.W.Frag) (g : TG) (τ : D → Sg → Option Sg) : Prop :=
  ∀ {π : Type} (Z : PotK π) (F : Fx) (B : Hp) (vs : L2.St) (H : Hp) (σ : Sg) (p : π) (v : V) (d : D) (σ' : Sg) (Q : L2.St → Hp → Prop),
    Rep K Z F B vs H σ p → Dq K B v d → τ d σ = some σ' → (∀ vs', Rep K Z F B vs' H σ' p → Q vs' H) → g v vs H Q
/-- in a comprehension: the block's own slots alone are written -/
def SemGc (K : PySem.W.Frag) (own : List Nat) (g : TG) (τ : D → Sg → Option Sg) : Prop :=
  ∀ {π : Type} (Z : PotK π) (F : Fx) (B : Hp) (vs : L2.St) (H : Hp) (σ : Sg) (p : π) (v : V) (d : D) (σ' : Sg) (Q : L2.St → Hp → Prop),
    Rep K Z F B vs H σ p → Dq K B v d → τ d σ = some σ' → (∀ vs', Rep K Z F B vs' H σ' p → wipe vs' own = wipe vs own → (∀ j, j ∉ own → σ'[j]? = σ[j]? ∧ vs'[j]? = vs[j]?) → Q vs' H) → g v vs H Q
def tgN (i : Nat) : D → Sg → Option Sg := fun d σ => some (σ.set i (.val d))
def tgP (i j : Nat) : D → Sg → Option Sg := fun d σ => match d with
  | .tuple [x, y] => some ((σ.set i (.val x)).set j (.val y))
  | _ => none
theorem sem_gN {K : PySem.W.Frag} {i : Nat} : SemG K (gName i) (tgN i) := by
  intro π Z F B vs H σ p v d σ' Q r hd e k
  cases e
  exact k _ (r.set i hd)
def gPair (K : PySem.W.Frag) (i j : Nat) : TG := gTup K 2 (gCons (gName i) (gCons (gName j) gNil))
theorem sem_gP {K : PySem.W.Frag} {i j : Nat} : SemG K (gPair K i j) (tgP i j) := by
  intro π Z F B vs H σ p v d σ' Q r hd e k
  cases hd with
  | tup hs ha =>
    cases ha with
    | nil => cases e
    | cons h1 ha =>
      cases ha with
      | nil => cases e
      | cons h2 ha =>
        cases ha with
        | nil =>
          cases e
          exact ⟨_, _, rfl, sq_t r.sub hs, rfl, _, _, rfl, _, _, rfl, rfl, k _ ((r.set i h1).set j h2)⟩
        | cons _ _ => cases e
  | _ => cases e
theorem wipe_get (vs : L2.St) (j : Nat) : ∀ own : List Nat, (wipe vs own)[j]? = if j ∈ own then (vs[j]?).map (fun _ => Option.none) else vs[j]?
  | [] => by simp [wipe]
  | i :: r => by
    unfold wipe
    by_cases h : i = j
    · subst h
      by_cases hl : i < vs.length
      · rw [List.getElem?_set_self (by rw [wipe_length]; exact hl), if_pos List.mem_cons_self, List.getElem?_eq_getElem hl]
        rfl
      · rw [List.getElem?_eq_none (by rw [List.length_set, wipe_length]; omega), if_pos List.mem_cons_self, List.getElem?_eq_none (by omega)]
        rfl
    · rw [List.getElem?_set_ne h, wipe_get vs j r]
      by_cases hm : j ∈ r
      · rw [if_pos hm, if_pos (List.mem_cons_of_mem _ hm)]
      · rw [if_neg hm, if_neg (by simp only [List.mem_cons, not_or]; exact ⟨fun e => h e.symm, hm⟩)]
theorem wipe_set {vs : L2.St} {i : Nat} {x : Option V} {own : List Nat} (h : i ∈ own) : wipe (vs.set i x) own = wipe vs own := by
  apply List.ext_getElem?
  intro j
  rw [wipe_get, wipe_get]
  by_cases hj : j ∈ own
  · rw [if_pos hj, if_pos hj, List.getElem?_set]
    by_cases e : i = j
    · subst e
      by_cases hl : i < vs.length
      · rw [if_pos rfl, if_pos hl, List.getElem?_eq_getElem hl]; rfl
      · rw [if_pos rfl, if_neg hl, List.getElem?_eq_none (by omega)]
    · rw [if_neg e]
  · rw [if_neg hj, if_neg hj, List.getElem?_set_ne (show i ≠ j from fun e => hj (by rw [← e]; exact h))]
theorem sem_gNc {K : PySem.W.Frag} {i : Nat} {own : List Nat} (h : i ∈ own) : SemGc K own (gName i) (tgN i) := by
  intro π Z F B vs H σ p v d σ' Q r hd e k
  cases e
  exact k _ (r.set i hd) (wipe_set h) fun j hj => ⟨List.getElem?_set_ne (show i ≠ j from fun e => hj (by rw [← e]; exact h)), List.getElem?_set_ne (show i ≠ j from fun e => hj (by rw [← e]; exact h))⟩
theorem sem_gPc {K : PySem.W.Frag} {i j : Nat} {own : List Nat} (h : i ∈ own) (h' : j ∈ own) : SemGc K own (gPair K i j) (tgP i j) := by
  intro π Z F B vs H σ p v d σ' Q r hd e k
  cases hd with
  | tup hs ha =>
    cases ha with
    | nil => cases e
    | cons h1 ha =>
      cases ha with
      | nil => cases e
      | cons h2 ha =>
        cases ha with
        | nil =>
          cases e
          refine ⟨_, _, rfl, sq_t r.sub hs, rfl, _, _, rfl, _, _, rfl, rfl, k _ ((r.set i h1).set j h2) ((wipe_set h').trans (wipe_set h)) fun l hl => ?_⟩
          have n1 : i ≠ l := fun e => hl (by rw [← e]; exact h)
          have n2 : j ≠ l := fun e => hl (by rw [← e]; exact h')
          exact ⟨by rw [List.getElem?_set_ne n2, List.getElem?_set_ne n1], by rw [List.getElem?_set_ne n2, List.getElem?_set_ne n1]⟩
        | cons _ _ => cases e
  | _ => cases e
structure FG (S : Sta) (N : List Str) (sc : Scope) (tg : Expr) (τ : D → Sg → Option Sg) : Prop where
  ex : ∃ g, (∀ X, Fam1 S N sc X → PG X tg g) ∧ SemG S.K g τ
structure FGc (S : Sta) (N : List Str) (sc scope : Scope) (own : List Nat) (tg : Expr) (τ : D → Sg → Option Sg) : Prop where
  ex : ∃ g, (∀ X, Fam S N sc X → ∀ (s : Shared) (H : Hp) (C : Addr) (cl : List (Str × Addr)) (fp : List Addr), PG (X.blk s H scope (compEnvC scope cl C X.env) fp) tg g) ∧ SemGc S.K own g τ
theorem fg_n {x : Str} (i : Nat) (hi : N[i]? = some x := by rfl) (hx : Loc sc x := by first | exact Or.inl rfl | exact Or.inr rfl) : FG S N sc (.Name x pos) (tgN i) := by
  refine ⟨_, fun X hX => ?_, sem_gN⟩
  obtain ⟨⟨nd, s0, H0, env, outer, stack, ex, fn, pn, hs', e⟩, hf⟩ := hX
  subst e
  exact pg_name nd hi (by show Loc env.scope x; rw [hs']; exact hx) (.inl (hf x))
theorem fg_p {x y : Str} {p1 p2 : Pos} {k} (i j : Nat) (hi : N[i]? = some x := by rfl) (hj : N[j]? = some y := by rfl) (hx : Loc sc x := by first | exact Or.inl rfl | exact Or.inr rfl)
    (hy : Loc sc y := by first | exact Or.inl rfl | exact Or.inr rfl) : FG S N sc (.Tuple [.Name x p1, .Name y p2] k pos) (tgP i j) := by
  refine ⟨gPair S.K i j, fun X hX => ?_, sem_gP⟩
  obtain ⟨⟨nd, s0, H0, env, outer, stack, ex, fn, pn, hs', e⟩, hf⟩ := hX
  subst e
  exact pg_tup rfl (pgs_cons (pg_name nd hi (by show Loc env.scope x; rw [hs']; exact hx) (.inl (hf x))) (pgs_cons (pg_name nd hj (by show Loc env.scope y; rw [hs']; exact hy) (.inl (hf y))) pgs_nil))
theorem relabel_fam {X : Cx} (hX : Fam S N sc X) (scope : Scope) : relabel scope X.env = relS scope sc := by
  obtain ⟨_, s0, H0, env, outer, stack, ex, fn, pn, hs, e⟩ := hX
  subst e
  show relabel scope env = _
  unfold relabel relS Env.kindOf
  rw [hs]
theorem fgc_n {x : Str} {scope : Scope} {own : List Nat} (i : Nat) (ho : i ∈ own := by decide) (hi : N[i]? = some x := by rfl) (hx : Loc (relS scope sc) x := by first | exact Or.inl rfl | exact Or.inr rfl)
    (hf : scope.names.lookup x = some .cell ∨ (relS scope sc).names.lookup x = some .local := by first | exact Or.inl rfl | exact Or.inr rfl) : FGc S N sc scope own (.Name x pos) (tgN i) := by
  refine ⟨_, fun X hX s H C cl fp => ?_, sem_gNc ho⟩
  have e := relabel_fam hX scope
  obtain ⟨nd, s0, H0, env, outer, stack, ex, fn, pn, hs, eX⟩ := hX
  subst eX
  refine pg_name nd hi (by show Loc (relabel scope env) x; rw [e]; exact hx) ?_
  rcases hf with hf | hf
  · left
    show (scope.names.lookup x == some .cell) = true
    rw [hf]; rfl
  · right
    show (relabel scope env).names.lookup x = _
    rw [e]; exact hf
theorem fgc_p {x y : Str} {p1 p2 : Pos} {k} {scope : Scope} {own : List Nat} (i j : Nat) (ho : i ∈ own := by decide) (ho' : j ∈ own := by decide) (hi : N[i]? = some x := by rfl) (hj : N[j]? = some y := by rfl)
    (hx : Loc (relS scope sc) x := by first | exact Or.inl rfl | exact Or.inr rfl) (hy : Loc (relS scope sc) y := by first | exact Or.inl rfl | exact Or.inr rfl)
    (hf : scope.names.lookup x = some .cell ∨ (relS scope sc).names.lookup x = some .local := by first | exact Or.inl rfl | exact Or.inr rfl)
    (hf' : scope.names.lookup y = some .cell ∨ (relS scope sc).names.lookup y = some .local := by first | exact Or.inl rfl | exact Or.inr rfl) : FGc S N sc scope own (.Tuple [.Name x p1, .Name y p2] k pos) (tgP i j) := by
  refine ⟨gPair S.K i j, fun X hX s H C cl fp => ?_, sem_gPc ho ho'⟩
  have e := relabel_fam hX scope
  obtain ⟨nd, s0, H0, env, outer, stack, ex, fn, pn, hs, eX⟩ := hX
  subst eX
  have go : ∀ z : Str, (scope.names.lookup z = some .cell ∨ (relS scope sc).names.lookup z = some .local) → (scope.names.lookup z == some .cell) = true ∨ (relabel scope env).names.lookup z = some .local := fun z h => by
    rcases h with h | h
    · left; rw [h]; rfl
    · right; rw [e]; exact h
  exact pg_tup rfl (pgs_cons (pg_name nd hi (by show Loc (relabel scope env) x; rw [e]; exact hx) (go x hf)) (pgs_cons (pg_name nd hj (by show Loc (relabel scope env) y; rw [e]; exact hy) (go y hf')) pgs_nil))
end
end FL

namespace FL
open PySem PySem.Spec PyProof.Rows L2

section
variable {π : Type} {Z : PotK π} {S : Sta} {N : List Str} {sc : Scope} {e a b tg : Expr} {es elts : List Expr} {pos : Pos} {α β : SE π} {φ : SB π} {ω : SL π} {ψ : SS π}

/-! ### for -/
def sLoop (τ : D → Sg → Option Sg) (ψ : SS π) : List D → Sg → π → Option (Out π)
  | [], σ, p => some (.nx σ p)
  | d :: r, σ, p => match τ d σ with
    | none => none
    | some σ1 => match ψ σ1 p with
      | some (.nx σ2 p2) => sLoop τ ψ r σ2 p2
      | some (.ct σ2 p2) => sLoop τ ψ r σ2 p2
      | some (.bk σ2 p2) => some (.nx σ2 p2)
      | some (.rt d p2) => some (.rt d p2)
      | none => none
def sFor (ω : SL π) (τ : D → Sg → Option Sg) (ψ : SS π) : SS π := fun σ p => (ω σ p).bind fun x => sLoop τ ψ x.1 σ x.2
theorem sem_for {K : PySem.W.Frag} {wi : TI} {g : TG} {tb : TS} {τ : D → Sg → Option Sg} (hi : SemI K Z wi ω) (hg : SemG K g τ) (hb : SemS K Z tb ψ) : SemS K Z (tFor wi g tb) (sFor ω τ ψ) := by
  intro F B vs H σ p o E r e k
  obtain ⟨⟨ds, p1⟩, e1, e⟩ := bnd e
  refine hi F B vs H σ p ds p1 _ r e1 fun J H1 B1 s1 r1 hJ => ?_
  refine ⟨fun i m vs H => m = ds.length - i ∧ i ≤ ds.length ∧ ∃ B2 σ p, Same B1 B2 ∧ Rep K Z F B2 vs H σ p ∧ sLoop τ ψ (ds.drop i) σ p = some o,
    ⟨_, rfl, Nat.zero_le _, B1, σ, p1, Same.refl B1, r1, e⟩, ?_⟩
  rintro i m vs2 H2 ⟨rfl, hi, B2, σ2, p2, s2, r2, e2⟩
  by_cases hlt : i < ds.length
  · refine .inr ⟨hJ.go i H2 (s2.trans r2.sub) hlt, fun vs H => ∃ B3 σ p, Same B1 B3 ∧ Rep K Z F B3 vs H σ p ∧ sLoop τ ψ (ds.drop (i + 1)) σ p = some o,
      fun vs3 H3 ⟨B3, σ3, p3, s3, r3, e3⟩ => ⟨_, by omega, rfl, hlt, B3, σ3, p3, s3, r3, e3⟩, fun x H3 y => ?_⟩
    obtain ⟨B3, gr, dx⟩ := hJ.yld i H2 x H3 ds[i] (s2.trans r2.sub) y (List.getElem?_eq_getElem hlt) B2 s2 r2.sub
    rw [List.drop_eq_getElem_cons hlt] at e2
    have e2 : (match τ ds[i] σ2 with
      | none => none
      | some σ1 => match ψ σ1 p2 with
        | some (.nx σ2 p2) => sLoop τ ψ (ds.drop (i + 1)) σ2 p2
        | some (.ct σ2 p2) => sLoop τ ψ (ds.drop (i + 1)) σ2 p2
        | some (.bk σ2 p2) => some (.nx σ2 p2)
        | some (.rt d p2) => some (.rt d p2)
        | none => none) = some o := e2
    cases c1 : τ ds[i] σ2 with
    | none => rw [c1] at e2; cases e2
    | some σ3 =>
      rw [c1] at e2
      refine hg Z F B3 vs2 H3 σ2 p2 x ds[i] σ3 _ (r2.grow gr) dx c1 fun vs3 r3 => ?_
      cases c2 : ψ σ3 p2 with
      | none => simp only [c2] at e2; cases e2
      | some w =>
        simp only [c2] at e2
        refine hb F B3 vs3 H3 σ3 p2 w _ r3 c2 ?_
        have s3 := s2.trans gr.b
        cases w with
        | nx σ4 p4 => exact fun vs' H' B' s' r' => ⟨B', σ4, p4, s3.trans s', r', e2⟩
        | ct σ4 p4 => exact fun vs' H' B' s' r' => ⟨B', σ4, p4, s3.trans s', r', e2⟩
        | bk σ4 p4 =>
          cases e2
          exact fun vs' H' B' s' r' => k vs' H' B' ((s1.trans s3).trans s') r'
        | rt d p4 =>
          cases e2
          exact fun v vs' H' B' σ' s' r' d' => k v vs' H' B' σ' ((s1.trans s3).trans s') r' d'
  · have ei : i = ds.length := by omega
    subst ei
    rw [List.drop_length] at e2
    cases e2
    exact .inl ⟨hJ.stop _ H2 (s2.trans r2.sub) rfl, k vs2 H2 B2 (s1.trans s2) r2⟩
theorem fs_for {it : Expr} {body : List Stmt} {τ : D → Sg → Option Sg} (hi : FI S N sc Z tg it ω) (hg : FG S N sc tg τ) (hb : FSs S N sc Z body ψ)
    (hs : ∀ (X : Cx) x, foldedSetIterable it X.env x = pure x := by intro _ _; rfl) : FS S N sc Z (.For tg it body [] pos) (sFor ω τ ψ) := by
  obtain ⟨wi, i1, i2⟩ := hi.ex
  obtain ⟨g, g1, g2⟩ := hg.ex
  obtain ⟨tb, b1, b2⟩ := hb.ex
  refine ⟨tFor wi g tb, fun X hX => ?_, sem_for i2 g2 b2⟩
  have h1 := i1 X hX.1
  have h2 := g1 X hX
  have h3 := b1 X hX
  obtain ⟨⟨nd, s0, H0, env, outer, stack, ex, fn, pn, hs', e⟩, hf⟩ := hX
  subst e
  exact ps_for PassesOwn.never rfl h1 h2 h3 (hs _)

/-! ### while -/
def sWhile (χ : SB π) (ψ : SS π) : Nat → Sg → π → Option (Out π)
  | 0, _, _ => none
  | n + 1, σ, p => (χ σ p).bind fun x => if x.1 = true then (match ψ σ x.2 with
      | some (.nx σ2 p2) => sWhile χ ψ n σ2 p2
      | some (.ct σ2 p2) => sWhile χ ψ n σ2 p2
      | some (.bk σ2 p2) => some (.nx σ2 p2)
      | some (.rt d p2) => some (.rt d p2)
      | none => none) else some (.nx σ x.2)
theorem sem_while {K : PySem.W.Frag} {tc : TT} {tb : TS} (n : Nat) (hc : SemT K Z tc φ) (hb : SemS K Z tb ψ) : SemS K Z (tWhile tc tb) (sWhile φ ψ n) := by
  intro F B vs H σ p o E r e k
  refine ⟨fun m vs H => ∃ B2 σ p, Same B B2 ∧ Rep K Z F B2 vs H σ p ∧ sWhile φ ψ m σ p = some o, ⟨n, B, σ, p, Same.refl B, r, e⟩, ?_⟩
  rintro m vs2 H2 ⟨B2, σ2, p2, s2, r2, e2⟩
  cases m with
  | zero => cases e2
  | succ m =>
    obtain ⟨⟨c, p3⟩, e3, e2⟩ := bnd e2
    refine hc F B2 vs2 H2 σ2 p2 c p3 _ r2 e3 fun H3 B3 s3 r3 => ?_
    cases c with
    | false =>
      cases e2
      exact k vs2 H3 B3 (s2.trans s3) r3
    | true =>
      refine ⟨fun vs H => ∃ B4 σ p, Same B B4 ∧ Rep K Z F B4 vs H σ p ∧ sWhile φ ψ m σ p = some o, fun vs4 H4 h4 => ⟨m, Nat.lt_succ_self m, h4⟩, ?_⟩
      have e2 : (match ψ σ2 p3 with
        | some (.nx σ2 p2) => sWhile φ ψ m σ2 p2
        | some (.ct σ2 p2) => sWhile φ ψ m σ2 p2
        | some (.bk σ2 p2) => some (.nx σ2 p2)
        | some (.rt d p2) => some (.rt d p2)
        | none => none) = some o := e2
      cases c2 : ψ σ2 p3 with
      | none => rw [c2] at e2; cases e2
      | some w =>
        rw [c2] at e2
        refine hb F B3 vs2 H3 σ2 p3 w _ r3 c2 ?_
        have s5 := s2.trans s3
        cases w with
        | nx σ4 p4 => exact fun vs' H' B' s' r' => ⟨B', σ4, p4, s5.trans s', r', e2⟩
        | ct σ4 p4 => exact fun vs' H' B' s' r' => ⟨B', σ4, p4, s5.trans s', r', e2⟩
        | bk σ4 p4 =>
          cases e2
          exact fun vs' H' B' s' r' => k vs' H' B' (s5.trans s') r'
        | rt d p4 =>
          cases e2
          exact fun v vs' H' B' σ' s' r' d' => k v vs' H' B' σ' (s5.trans s') r' d'
theorem fs_while {c : Expr} {body : List Stmt} (n : Nat) (hc : FT S N sc Z c φ) (hb : FSs S N sc Z body ψ) : FS S N sc Z (.While c body [] pos) (sWhile φ ψ n) := by
  obtain ⟨t, c1, c2⟩ := hc.ex
  obtain ⟨tb, b1, b2⟩ := hb.ex
  refine ⟨tWhile t tb, fun X hX => ?_, sem_while n c2 b2⟩
  have h1 := c1 X hX.1
  have h3 := b1 X hX
  obtain ⟨⟨nd, s0, H0, env, outer, stack, ex, fn, pn, hs', e⟩, hf⟩ := hX
  subst e
  exact ps_while PassesOwn.never h1 h3

/-! ### comprehensions -/
def wipeS (σ : Sg) : List Nat → Sg
  | [] => σ
  | i :: r => (wipeS σ r).set i .un
theorem Rep.wipe {K : PySem.W.Frag} {F : Fx} {B : Hp} {vs : L2.St} {H : Hp} {σ : Sg} {p : π} (r : Rep K Z F B vs H σ p) : ∀ own : List Nat, Rep K Z F B (L2.wipe vs own) H (wipeS σ own) p
  | [] => r
  | i :: l => (Rep.wipe r l).drop i none
theorem wipeS_get (σ : Sg) (j : Nat) : ∀ own : List Nat, (j ∉ own → (wipeS σ own)[j]? = σ[j]?) ∧ (j ∈ own → ∀ s, (wipeS σ own)[j]? = some s → s = .un)
  | [] => ⟨fun _ => rfl, fun h => by cases h⟩
  | i :: l => by
    obtain ⟨h1, h2⟩ := wipeS_get σ j l
    unfold wipeS
    refine ⟨fun h => ?_, fun h s e => ?_⟩
    · simp only [List.mem_cons, not_or] at h
      rw [List.getElem?_set_ne (fun q => h.1 q.symm)]
      exact h1 h.2
    · by_cases q : i = j
      · subst q
        by_cases hl : i < (wipeS σ l).length
        · rw [List.getElem?_set_self hl] at e
          cases e; rfl
        · rw [List.getElem?_eq_none (by rw [List.length_set]; omega)] at e
          cases e
      · rw [List.getElem?_set_ne q] at e
        rcases List.mem_cons.mp h with z | z
        · exact absurd z.symm q
        · exact h2 z s e
/-- neither a list of one's own nor the pot stands there -/
def plainAt (σ : Sg) (own : List Nat) : Bool := own.all fun i => match σ[i]? with
  | some (.own _) => false
  | some .pot => false
  | _ => true
theorem plainAt_of {σ : Sg} {own : List Nat} (h : plainAt σ own = true) {j : Nat} (hj : j ∈ own) : (∀ ds, σ[j]? ≠ some (.own ds)) ∧ σ[j]? ≠ some Sl.pot := by
  have h := List.all_eq_true.mp h j hj
  refine ⟨fun ds e => ?_, fun e => ?_⟩
  · rw [e] at h; cases h
  · rw [e] at h; cases h
def lcGo (own : List Nat) (τ : D → Sg → Option Sg) (χ : SB π) (α : SE π) : List D → Sg → π → Option (List D × π)
  | [], _, p => some ([], p)
  | d :: r, σ, p => match τ d (wipeS σ own) with
    | none => none
    | some σ1 => (χ σ1 p).bind fun c => if c.1 = true then (α σ1 c.2).bind fun y => (lcGo own τ χ α r σ y.2).map fun z => (y.1 :: z.1, z.2) else lcGo own τ χ α r σ c.2
def lComp (own : List Nat) (ω : SL π) (τ : D → Sg → Option Sg) (χ : SB π) (α : SE π) : SL π := fun σ p => (ω σ p).bind fun x =>
  if x.1.length ≤ sizeLine ∧ plainAt σ own = true then lcGo own τ χ α x.1 σ x.2 else none
def Fx.with (F : Fx) (a : Addr) (xs : List V) : Fx := ⟨F.pa, F.g, fun b => F.N b ∨ b = a, upd F.H0 a (.lst xs)⟩
theorem NewL.go {K : PySem.W.Frag} {F : Fx} {B : Hp} {vs : L2.St} {H : Hp} {σ : Sg} {p : π} {a : Addr} {ds : List D} (n : NewL K Z F B vs H σ p a ds) {xs : List V} (h : H a = some (.lst xs)) : Rep K Z (F.with a xs) B vs H σ p where
  sub := n.rep.sub
  old := fun b o hb e => by
    by_cases z : b = a
    · subst z
      have e : upd F.H0 b (.lst xs) b = some o := e
      rw [upd_same] at e; rw [← e]; exact h
    · have e : upd F.H0 a (.lst xs) b = some o := e
      rw [upd_ne z] at e
      exact n.rep.old b o hb e
  pok := n.rep.pok
  potN := fun b hb => .inl (n.rep.potN b hb)
  noB := fun b hb => by
    rcases hb with hb | hb
    · exact n.rep.noB b hb
    · rw [hb]; exact n.nB
  noH := fun b hb => by
    rcases hb with hb | hb
    · exact n.rep.noH b hb
    · rw [hb, h]; simp
  len := n.rep.len
  val := n.rep.val
  own := fun i es e => by
    obtain ⟨b, ys, h1, h2, h3, h4, h5, h6⟩ := n.rep.own i es e
    have ne : b ≠ a := fun z => n.nS i es e (by rw [← z]; exact h1)
    refine ⟨b, ys, h1, h2, h3, h4, ?_, fun z => z.elim h6 ne⟩
    show upd F.H0 a (.lst xs) b = none
    rw [upd_ne ne]; exact h5
  pot := n.rep.pot
  apart := n.rep.apart
theorem NewL.come {K : PySem.W.Frag} {F : Fx} {B : Hp} {vs : L2.St} {H : Hp} {σ : Sg} {p : π} {a : Addr} {xs : List V} {ds : List D} (r : Rep K Z (F.with a xs) B vs H σ p)
    (n0 : F.H0 a = none) (nN : ¬ F.N a) (hp : ∀ b ∈ Z.fp F.pa F.g, F.N b) (d : DqAll K B xs ds) : NewL K Z F B vs H σ p a ds where
  rep := {
    sub := r.sub
    old := fun b o hb e => by
      refine r.old b o hb ?_
      show upd F.H0 a (.lst xs) b = some o
      rw [upd_ne (ne_of_none e n0)]; exact e
    pok := r.pok
    potN := hp
    noB := fun b hb => r.noB b (.inl hb)
    noH := fun b hb => r.noH b (.inl hb)
    len := r.len
    val := r.val
    own := fun i es e => by
      obtain ⟨b, ys, h1, h2, h3, h4, h5, h6⟩ := r.own i es e
      refine ⟨b, ys, h1, h2, h3, h4, ?_, fun z => h6 (.inl z)⟩
      have ne : b ≠ a := fun z => h6 (.inr z)
      have h5 : upd F.H0 a (.lst xs) b = none := h5
      rw [upd_ne ne] at h5; exact h5
    pot := r.pot
    apart := r.apart }
  is := ⟨xs, r.old a _ (fun z => nN (hp a z)) (show upd F.H0 a (.lst xs) a = _ from upd_same), d⟩
  nB := r.noB a (.inr rfl)
  n0 := n0
  nN := nN
  nS := fun i es e q => by
    obtain ⟨b, ys, h1, h2, h3, h4, h5, h6⟩ := r.own i es e
    rw [q] at h1
    cases h1
    exact h6 (.inr rfl)
/-- the new list is written -/
theorem NewL.put {K : PySem.W.Frag} {F : Fx} {B : Hp} {vs : L2.St} {H : Hp} {σ : Sg} {p : π} {a : Addr} {ds es : List D} {ys : List V} (n : NewL K Z F B vs H σ p a ds) (d : DqAll K B ys es) : NewL K Z F B vs (upd H a (.lst ys)) σ p a es where
  rep := {
    sub := fun b o e => by rw [upd_ne (ne_of_none e n.nB)]; exact n.rep.sub b o e
    old := fun b o hb e => by rw [upd_ne (ne_of_none e n.n0)]; exact n.rep.old b o hb e
    pok := Z.loc F.pa F.g H _ p (fun b hb => upd_ne (show b ≠ a from fun z => n.nN (by rw [← z]; exact n.rep.potN b hb))) n.rep.pok
    potN := n.rep.potN
    noB := n.rep.noB
    noH := fun b hb => by rw [upd_ne (show b ≠ a from fun z => n.nN (by rw [← z]; exact hb))]; exact n.rep.noH b hb
    len := n.rep.len
    val := n.rep.val
    own := fun i fs e => by
      obtain ⟨b, zs, h1, h2, h3⟩ := n.rep.own i fs e
      refine ⟨b, zs, h1, ?_, h3⟩
      rw [upd_ne (show b ≠ a from fun z => n.nS i fs e (by rw [← z]; exact h1))]; exact h2
    pot := n.rep.pot
    apart := n.rep.apart }
  is := ⟨ys, upd_same, d⟩
  nB := n.nB
  n0 := n.n0
  nN := n.nN
  nS := n.nS
theorem wipe_idem (vs : L2.St) (own : List Nat) : L2.wipe (L2.wipe vs own) own = L2.wipe vs own := by
  apply List.ext_getElem?
  intro j
  rw [wipe_get, wipe_get]
  by_cases h : j ∈ own
  · simp only [if_pos h]
    cases vs[j]? <;> rfl
  · simp only [if_neg h]
theorem sem_lc {K : PySem.W.Frag} {wi : TI} {g : TG} {tt : TT} {te : TE} {τ : D → Sg → Option Sg} {own : List Nat} (hi : SemI K Z wi ω) (hg : SemGc K own g τ) (ht : SemT K Z tt φ) (he : SemE K Z te α) : SemL K Z (tLc wi g tt te own) (lComp own ω τ φ α) := by
  intro F B vs H σ p ds p' Q r e k
  obtain ⟨⟨xs, p1⟩, e1, e⟩ := bnd e
  have e : (if xs.length ≤ sizeLine ∧ plainAt σ own = true then lcGo own τ φ α xs σ p1 else none) = some (ds, p') := e
  split at e
  · rename_i hc
    obtain ⟨hz, hpl⟩ := hc
    refine hi F B vs H σ p xs p1 _ r e1 fun J H1 B1 s1 r1 hJ => fun L hL => ?_
    have hbk : ∀ i : Nat, ((wipeS σ own)[i]? = σ[i]? ∧ (L2.wipe vs own)[i]? = vs[i]?) ∨ ((∀ ds, σ[i]? ≠ some (.own ds)) ∧ σ[i]? ≠ some Sl.pot) := fun i => by
      by_cases hi : i ∈ own
      · exact .inr (plainAt_of hpl hi)
      · exact .inl ⟨(wipeS_get σ i own).1 hi, by rw [wipe_get, if_neg hi]⟩
    have rw1 := r1.wipe own
    have n0 : NewL K Z F B1 (L2.wipe vs own) (upd H1 L (.lst [])) (wipeS σ own) p1 L [] := newL_of rw1 (Gr.lay r1.sub hL) hL (r1.sub.free hL) upd_same .nil
    refine ⟨fun i m H => m = xs.length - i ∧ i ≤ xs.length ∧ ∃ B2 p acc rest, Same B1 B2 ∧ NewL K Z F B2 (L2.wipe vs own) H (wipeS σ own) p L acc ∧ acc.length ≤ i ∧ lcGo own τ φ α (xs.drop i) σ p = some (rest, p') ∧ acc ++ rest = ds,
      ⟨_, rfl, Nat.zero_le _, B1, p1, [], ds, Same.refl B1, n0, Nat.zero_le _, e, rfl⟩, ?_⟩
    rintro i m H2 ⟨rfl, hi2, B2, p2, acc, rest, s2, n2, ha2, e2, ed⟩
    by_cases hlt : i < xs.length
    · refine .inr ⟨hJ.go i H2 (s2.trans n2.rep.sub) hlt, fun H => ∃ B3 p acc rest, Same B1 B3 ∧ NewL K Z F B3 (L2.wipe vs own) H (wipeS σ own) p L acc ∧ acc.length ≤ i + 1 ∧ lcGo own τ φ α (xs.drop (i + 1)) σ p = some (rest, p') ∧ acc ++ rest = ds,
        fun H3 ⟨B3, p3, acc3, rest3, h3⟩ => ⟨_, by omega, rfl, hlt, B3, p3, acc3, rest3, h3⟩, fun x H3 y => ?_⟩
      obtain ⟨B3, gr, dx⟩ := hJ.yld i H2 x H3 xs[i] (s2.trans n2.rep.sub) y (List.getElem?_eq_getElem hlt) B2 s2 n2.rep.sub
      rw [List.drop_eq_getElem_cons hlt] at e2
      obtain ⟨ys, g1, g2⟩ := n2.is
      -- the new list stands as a thing of the entry
      have R3 : Rep K Z (F.with L ys) B3 (L2.wipe vs own) H3 (wipeS σ own) p2 := (n2.go g1).grow gr
      have dys : DqAll K B3 ys acc := DqA_up gr.b acc ys g2
      have e2 : (match τ xs[i] (wipeS σ own) with
        | none => none
        | some σ1 => (φ σ1 p2).bind fun c => if c.1 = true then (α σ1 c.2).bind fun y => (lcGo own τ φ α (xs.drop (i + 1)) σ y.2).map fun z => (y.1 :: z.1, z.2) else lcGo own τ φ α (xs.drop (i + 1)) σ c.2) = some (rest, p') := e2
      cases c1 : τ xs[i] (wipeS σ own) with
      | none => rw [c1] at e2; cases e2
      | some σ3 =>
        rw [c1] at e2
        refine hg Z (F.with L ys) B3 _ H3 (wipeS σ own) p2 x xs[i] σ3 _ R3 dx c1 fun vs3 r3 ew hj => ⟨by rw [ew, wipe_idem], ?_⟩
        obtain ⟨⟨c, p3⟩, e3, e2⟩ := bnd e2
        refine ht (F.with L ys) B3 vs3 H3 σ3 p2 c p3 _ r3 e3 fun H4 B4 s4 r4 => ?_
        have hback : ∀ {B5 : Hp} {H5 : Hp} {p5 : π}, Same B3 B5 → Rep K Z (F.with L ys) B5 vs3 H5 σ3 p5 → Rep K Z (F.with L ys) B5 (L2.wipe vs own) H5 (wipeS σ own) p5 := fun {B5 H5 p5} s5 r5 =>
          r5.back R3 s5 fun j => by
            by_cases hj2 : j ∈ own
            · right
              have q := (wipeS_get σ j own).2 hj2
              exact ⟨fun ds e => (by have := q _ e; cases this), fun e => (by have := q _ e; cases this)⟩
            · exact .inl (hj j hj2)
        have hN : ¬ F.N L := n2.nN
        have h0 : F.H0 L = none := n2.n0
        cases c with
        | true =>
          rw [if_pos rfl]
          have e2 : ((α σ3 p3).bind fun y => (lcGo own τ φ α (xs.drop (i + 1)) σ y.2).map fun z => (y.1 :: z.1, z.2)) = some (rest, p') := e2
          obtain ⟨⟨w, p4⟩, e4, e2⟩ := bnd e2
          obtain ⟨⟨rest', p5⟩, e5, e6⟩ := mpd e2
          refine he (F.with L ys) B4 vs3 H4 σ3 p3 w p4 _ r4 e4 fun v H5 B5 s5 r5 dv => ?_
          have s35 := s4.trans s5
          have n5 : NewL K Z F B5 (L2.wipe vs own) H5 (wipeS σ own) p4 L acc := NewL.come (hback s35 r5) h0 hN n2.rep.potN (DqA_up s35 acc ys dys)
          have hL5 : H5 L = some (.lst ys) := r5.old L _ (fun z => hN (n2.rep.potN L z)) (show upd F.H0 L (.lst ys) L = _ from upd_same)
          have el : ys.length = acc.length := DqAll.len dys
          have ep : p5 = p' := congrArg Prod.snd e6
          have er : w :: rest' = rest := congrArg Prod.fst e6
          refine ⟨ys, hL5, by omega, B5, p4, acc ++ [w], rest', (s2.trans gr.b).trans s35, n5.put (DqAll.app (DqA_up s35 acc ys dys) (.cons dv .nil)), by rw [List.length_append, List.length_singleton]; omega, by rw [← ep]; exact e5, ?_⟩
          rw [List.append_assoc, List.singleton_append, er]; exact ed
        | false =>
          rw [if_neg Bool.false_ne_true]
          have e2 : lcGo own τ φ α (xs.drop (i + 1)) σ p3 = some (rest, p') := e2
          exact ⟨B4, p3, acc, rest, (s2.trans gr.b).trans s4, NewL.come (hback s4 r4) h0 hN n2.rep.potN (DqA_up s4 acc ys dys), by omega, e2, ed⟩
    · have ei : i = xs.length := by omega
      subst ei
      rw [List.drop_length] at e2
      cases e2
      rw [List.append_nil] at ed
      subst ed
      refine .inl ⟨hJ.stop _ H2 (s2.trans n2.rep.sub) rfl, k L H2 B2 (s1.trans s2) ?_⟩
      exact ⟨n2.rep.back r1 s2 hbk, n2.is, n2.nB, n2.n0, n2.nN, fun j es ej q => by
        rcases hbk j with ⟨q1, q2⟩ | ⟨q1, _⟩
        · exact n2.nS j es (q1.trans ej) (q2.trans q)
        · exact q1 es ej⟩
  · cases e
end
end FL

namespace FL
open PySem PySem.Spec PyProof.Rows L2

/-! ### rules by what a function says of data -/
def O2 (K : PySem.W.Frag) (f : D → D → Option D) : R2 := fun x y H Q => ∃ B d e z, Same B H ∧ Dq K B x d ∧ Dq K B y e ∧ f d e = some z ∧ ∀ v H' B', Gr B H B' H' → Dq K B' v z → Q v H'
def O1 (K : PySem.W.Frag) (f : D → Option D) : V → Hp → VK → Prop := fun x H Q => ∃ B d z, Same B H ∧ Dq K B x d ∧ f d = some z ∧ ∀ v H' B', Gr B H B' H' → Dq K B' v z → Q v H'
def ON (K : PySem.W.Frag) (f : List D → Option D) : List V → Hp → VK → Prop := fun xs H Q => ∃ B ds z, Same B H ∧ DqAll K B xs ds ∧ f ds = some z ∧ ∀ v H' B', Gr B H B' H' → Dq K B' v z → Q v H'
def ONL (K : PySem.W.Frag) (f : List D → Option (List D)) : List V → Hp → VK → Prop := fun xs H Q => ∃ B ds z, Same B H ∧ DqAll K B xs ds ∧ f ds = some z ∧
  ∀ a ys H' B', Gr B H B' H' → H a = none → B' a = none → H' a = some (.lst ys) → DqAll K B' ys z → Q (.ref a) H'
def O2L (K : PySem.W.Frag) (f : D → D → Option (List D)) : R2 := fun x y H Q => ∃ B d e z, Same B H ∧ Dq K B x d ∧ Dq K B y e ∧ f d e = some z ∧
  ∀ a ys H' B', Gr B H B' H' → H a = none → B' a = none → H' a = some (.lst ys) → DqAll K B' ys z → Q (.ref a) H'
theorem v_O2 {K : PySem.W.Frag} {f : D → D → Option D} : Val2 K (O2 K f) f := fun B H x y d e z Q s hx hy hz k => ⟨B, d, e, z, s, hx, hy, hz, k⟩
theorem v_O1 {K : PySem.W.Frag} {f : D → Option D} : Val1 K (O1 K f) f := fun B H x d z Q s hx hz k => ⟨B, d, z, s, hx, hz, k⟩
theorem v_ON {K : PySem.W.Frag} {f : List D → Option D} : ValN K (ON K f) f := fun B H xs ds z Q s hx hz k => ⟨B, ds, z, s, hx, hz, k⟩
theorem v_ONL {K : PySem.W.Frag} {f : List D → Option (List D)} : ValNL K (ONL K f) f := fun B H xs ds z Q s hx hz k => ⟨B, ds, z, s, hx, hz, k⟩
theorem v_O2L {K : PySem.W.Frag} {f : D → D → Option (List D)} : Val2L K (O2L K f) f := fun B H x y d e z Q s hx hy hz k => ⟨B, d, e, z, s, hx, hy, hz, k⟩

/-! ### the functions -/
def fAdd : D → D → Option D
  | .int i, .int j => some (.int (i + j))
  | .str x, .str y => if x.length + y.length ≤ sizeLine then some (.str (x ++ y)) else none
  | .tuple xs, .tuple ys => if xs.length + ys.length ≤ sizeLine then some (.tuple (xs ++ ys)) else none
  | _, _ => none
def fSub : D → D → Option D
  | .int i, .int j => some (.int (i - j))
  | _, _ => none
def mulOk (i j : Int) : Bool := decide (i.natAbs < 2 ^ 64) || decide (j.natAbs < 2 ^ 64) || decide (i.natAbs.log2 + j.natAbs.log2 < 1000000)
def fMul : D → D → Option D
  | .int i, .int j => if mulOk i j = true then some (.int (i * j)) else none
  | _, _ => none
def divOk (j : Int) : Bool := decide (j ≠ 0) && (decide (j.natAbs < 1073741824) || decide (j.natAbs.log2 < 9000))
def fDiv : D → D → Option D
  | .int i, .int j => if divOk j = true then some (.int (i.fdiv j)) else none
  | _, _ => none
def fMod : D → D → Option D
  | .int i, .int j => if j = 0 then none else some (.int (i.fmod j))
  | _, _ => none
def powOk (i j : Int) : Bool := decide (0 ≤ j) && decide (j ≤ 1000000) && decide (i.natAbs < 2 ^ 64)
def fPow : D → D → Option D
  | .int i, .int j => if powOk i j = true then some (.int (i ^ j.toNat)) else none
  | _, _ => none
def fShl : D → D → Option D
  | .int i, .int j => if powOk i j = true then some (.int (i * 2 ^ j.toNat)) else none
  | _, _ => none
def fShr : D → D → Option D
  | .int i, .int j => if 0 ≤ j then some (.int (i / 2 ^ j.toNat)) else none
  | _, _ => none
def fAnd : D → D → Option D
  | .int i, .int j => some (.int (Builtin.bitAnd i j))
  | _, _ => none
def fOr : D → D → Option D
  | .int i, .int j => some (.int (Builtin.bitOr i j))
  | _, _ => none
def fNeg : D → Option D
  | .int i => some (.int (-i))
  | _ => none
def fInv : D → Option D
  | .int i => some (.int (Builtin.bitNot i))
  | _ => none
/-- == with what is empty -/
def eqE : D → D → Option Bool
  | .tuple ds, .tuple [] => some ds.isEmpty
  | .list ds, .list [] => some ds.isEmpty
  | _, _ => none
def eqD : D → D → Option Bool
  | .str x, .str y => some (decide (x = y))
  | d, e => if SeqAt.shaped d && SeqAt.shaped e then some (PyData.eqv d e) else eqE d e
def fEq (d e : D) : Option D := (eqD d e).map .bool
def fNe (d e : D) : Option D := (eqD d e).map fun b => .bool (!b)
def isNon : D → Bool
  | .none => true
  | _ => false
def ltOk (d e : D) : Bool := PySem.W.alike d e && !isNon d && decide (d.depth ≤ 64)
def fLt (d e : D) : Option D := match d, e with
  | .int i, .int j => some (.bool (decide (i < j)))
  | d, e => if ltOk d e = true then some (.bool (PySem.W.dataLt d e)) else none
def fGt (d e : D) : Option D := match d, e with
  | .int i, .int j => some (.bool (decide (j < i)))
  | d, e => if ltOk d e = true then some (.bool (PySem.W.dataLt e d)) else none
def fLe (d e : D) : Option D := match d, e with
  | .int i, .int j => some (.bool (decide (i ≤ j)))
  | d, e => if ltOk d e = true then some (.bool (!PySem.W.dataLt e d)) else none
def fGe (d e : D) : Option D := match d, e with
  | .int i, .int j => some (.bool (decide (j ≤ i)))
  | d, e => if ltOk d e = true then some (.bool (!PySem.W.dataLt d e)) else none
def isIn (d e : D) : Option Bool := (items e).bind fun ds => if SeqAt.shaped d && SeqAt.shaped e then some (ds.any fun z => PyData.eqv z d) else none
def fIn (d e : D) : Option D := (isIn d e).map .bool
def fNin (d e : D) : Option D := (isIn d e).map fun b => .bool (!b)
def fIs (d e : D) : Option D := match e with
  | .none => some (.bool (match d with
    | .none => true
    | _ => false))
  | _ => none
def fIsn (d e : D) : Option D := match e with
  | .none => some (.bool (match d with
    | .none => false
    | _ => true))
  | _ => none
def fIx : D → D → Option D
  | .list ds, .int i => atI ds i
  | .tuple ds, .int i => atI ds i
  | .str z, .int i => if z.length ≤ sizeLine then (atI z.cps.toList i).map fun c => .str ⟨#[c]⟩ else none
  | _, _ => none

mutual
theorem nodict_of : ∀ d : D, d.canLay0 = true → d.hasDict = false
  | .none, _ => by rw [PyData.hasDict]
  | .bool _, _ => by rw [PyData.hasDict]
  | .int _, _ => by rw [PyData.hasDict]
  | .str _, _ => by rw [PyData.hasDict]
  | .list ds, h => by
    rw [PyData.hasDict]
    rw [PyData.canLay0] at h
    exact nodictA_of ds h
  | .tuple ds, h => by
    rw [PyData.hasDict]
    rw [PyData.canLay0] at h
    exact nodictA_of ds h
  | .dict _, h => by rw [PyData.canLay0] at h; cases h
theorem nodictA_of : ∀ ds : List D, PyData.canLayAll0 ds = true → PyData.hasDictAll ds = false
  | [], _ => by rw [PyData.hasDictAll]
  | d :: ds, h => by
    rw [PyData.canLayAll0, Bool.and_eq_true] at h
    rw [PyData.hasDictAll, nodict_of d h.1, nodictA_of ds h.2]; rfl
end
theorem fit_dict : ∀ d : D, SeqAt.shaped d = true → d.hasDict = false := fun d h => by
  unfold SeqAt.shaped at h
  rw [Bool.and_eq_true] at h
  exact nodict_of d h.1
theorem key_reads {P : Program} {w : World} {h : Heap} {k : Key} {u : Value} (e : (mixKind P w).is k u = true) : RdN h u (kD k) := by
  have e : keyIs k u = true := e
  rcases keyIs_shape e with ⟨i, t, e1, e2⟩ | ⟨x, t, e1, e2⟩
  · subst e1; subst e2; exact .int i t
  · subst e1; subst e2; exact .str x t
theorem pairs_keys {P : Program} {w : World} {K : PySem.W.Frag} {B : Hp} {h : Heap} {ks : List (Key × V)} {es : List (D × D)} (q : DqKv K B ks es) : ∀ {vs : List (Key × Value)} {dz : List DictEntry}, KV ks vs → Pairs (mixKind P w) dz vs → RdNs h (dz.map (·.key)) (es.map (·.1)) := by
  induction es generalizing ks with
  | nil =>
    intro vs dz r p
    cases q; cases r; cases p; exact .nil
  | cons e es ih =>
    intro vs dz r p
    cases q with
    | cons h1 h2 =>
      cases r with
      | cons r1 r2 =>
        cases p with
        | cons p1 p2 p3 =>
          refine .cons ?_ (ih h2 r2 p3)
          have p1 := key_reads (h := h) p1
          rw [← r1.1] at p1
          exact p1
mutual
theorem Dq.rd {X : Cx} {pins : List (Addr × Obj)} {σ : L2.St} {H : Hp} {s : Shared} (I : L2.Inv X pins σ H s) : ∀ (d : D) (v : V) (u : Value), Dq X.K H v d → L2.RelV v u → RdN s.heap u d
  | .none, _, _, h, r => by cases h; cases r; exact .none
  | .bool b, _, _, h, r => by cases h; cases r; exact .bool b
  | .int i, _, _, h, r => by cases h; obtain ⟨t, rfl⟩ := r; exact .int i t
  | .str x, _, _, h, r => by cases h; obtain ⟨t, rfl⟩ := r; exact .str x t
  | .list ds, _, _, h, r => by
    cases h with
    | lst hs ha =>
      cases r
      obtain ⟨z, its, n, rv, _, e⟩ := I.lstM hs
      exact .list e rfl rfl (DqAll.rd I ds _ _ ha rv)
  | .tuple ds, _, _, h, r => by
    cases h with
    | tup hs ha =>
      cases r
      obtain ⟨its, rv, ⟨o, h3, h4, n, h5⟩, _⟩ := I.tuple hs
      exact .tuple h3 h4 h5 (DqAll.rd I ds _ _ ha rv)
  | .dict es, _, _, h, r => by
    cases h with
    | dct hs ha =>
      cases r
      obtain ⟨_, hn, vs, kv, o, dz, ep, h1, h2, h3, h4, h5, _⟩ := dk_of I.hok hs
      exact .dict hn h1 h2.1 h3 (pairs_keys ha kv h5) (DqKv.rd I es _ _ ha kv h5)
theorem DqAll.rd {X : Cx} {pins : List (Addr × Obj)} {σ : L2.St} {H : Hp} {s : Shared} (I : L2.Inv X pins σ H s) : ∀ (ds : List D) (vs : List V) (us : List Value), DqAll X.K H vs ds → Vals vs us → RdNs s.heap us ds
  | [], _, _, h, r => by cases h; cases r; exact .nil
  | d :: ds, _, _, h, r => by
    cases h with
    | cons h1 h2 =>
      cases r with
      | cons r1 r2 => exact .cons (Dq.rd I d _ _ h1 r1) (DqAll.rd I ds _ _ h2 r2)
theorem DqKv.rd {X : Cx} {pins : List (Addr × Obj)} {σ : L2.St} {H : Hp} {s : Shared} (I : L2.Inv X pins σ H s) : ∀ (es : List (D × D)) (ks : List (Key × V)) (vs : List (Key × Value)) {dz : List DictEntry}, DqKv X.K H ks es → KV ks vs → Pairs (mixKind X.prog X.w) dz vs → RdNs s.heap (dz.map (·.val)) (es.map (·.2))
  | [], _, _, _, h, r, p => by cases h; cases r; cases p; exact .nil
  | (_, d) :: es, _, _, _, h, r, p => by
    cases h with
    | cons h1 h2 =>
      cases r with
      | cons r1 r2 =>
        cases p with
        | cons p1 p2 p3 =>
          rw [List.map_cons, List.map_cons, p2]
          exact .cons (Dq.rd I d _ _ h1 r1.2) (DqKv.rd I es _ _ h2 r2 p3)
end
theorem Dq.reads {X : Cx} {pins : List (Addr × Obj)} {σ : L2.St} {H : Hp} {s : Shared} (I : L2.Inv X pins σ H s) (d : D) (v : V) (u : Value) (h : Dq X.K H v d) (r : L2.RelV v u) : ∃ as, Reads s.heap u d as := (Dq.rd I d v u h r).reads
theorem DqAll.reads {X : Cx} {pins : List (Addr × Obj)} {σ : L2.St} {H : Hp} {s : Shared} (I : L2.Inv X pins σ H s) (ds : List D) (vs : List V) (us : List Value) (h : DqAll X.K H vs ds) (r : Vals vs us) : ∃ as, ReadsAll s.heap us ds as := (DqAll.rd I ds vs us h r).reads
section
variable {X : Cx}
theorem o_add : OpR X (binaryOp .Add) (O2 X.K fAdd) := by
  intro pins s σ H x y v u Q I rx ry ⟨B, d, e, z, sb, hx, hy, hf, k⟩
  unfold fAdd at hf
  split at hf
  · cases hf; cases hx; cases hy
    exact op_add pins s σ H _ _ v u Q I rx ry ⟨_, _, rfl, rfl, k _ H B (Gr.refl sb) (.int _)⟩
  · split at hf
    · rename_i hl
      cases hf; cases hx; cases hy
      exact op_add_str pins s σ H _ _ v u Q I rx ry ⟨_, _, rfl, rfl, hl, k _ H B (Gr.refl sb) (.str _)⟩
    · cases hf
  · split at hf
    · rename_i ds es hl
      cases hf
      cases hx with
      | tup h1 h2 =>
        cases hy with
        | tup g1 g2 =>
          refine op_catA pins s σ H _ _ v u Q I rx ry ⟨_, _, _, _, rfl, rfl, sq_t sb h1, sq_t sb g1, by rw [DqAll.len h2, DqAll.len g2]; exact hl, fun e0 => ?_, fun _ e0 => ?_, fun _ _ p hp => ?_⟩
          · have : ds = [] := List.eq_nil_of_length_eq_zero (by rw [← DqAll.len h2, e0]; rfl)
            subst this
            exact k _ H B (Gr.refl sb) (.tup g1 g2)
          · have : es = [] := List.eq_nil_of_length_eq_zero (by rw [← DqAll.len g2, e0]; rfl)
            subst this
            rw [List.append_nil] at k
            exact k _ H B (Gr.refl sb) (.tup h1 h2)
          · refine k _ _ _ (Gr.new sb hp) (.tup (SqT.of upd_same) ?_)
            have s1 := fun (o : HO) => Same.put (o := o) (sb.free hp)
            exact DqAll.app (DqA_up (s1 _) _ _ h2) (DqA_up (s1 _) _ _ g2)
    · cases hf
  · cases hf
theorem o_int {op : Operator} {f : D → D → Option D} {C : Int → Int → Prop} {g : Int → Int → V} (h : OpR X (binaryOp op) (rI C g)) (hf : ∀ d e z, f d e = some z → ∃ i j k, d = .int i ∧ e = .int j ∧ z = .int k ∧ C i j ∧ g i j = .int k) : OpR X (binaryOp op) (O2 X.K f) := by
  intro pins s σ H x y v u Q I rx ry ⟨B, d, e, z, sb, hx, hy, hz, k⟩
  obtain ⟨i, j, l, rfl, rfl, rfl, hc, hg⟩ := hf d e z hz
  cases hx; cases hy
  exact h pins s σ H _ _ v u Q I rx ry ⟨i, j, rfl, rfl, hc, by rw [hg]; exact k _ H B (Gr.refl sb) (.int _)⟩
theorem o_int0 {op : Operator} {f : D → D → Option D} {g : Int → Int → V} (h : OpR X (binaryOp op) (rI0 g)) (hf : ∀ d e z, f d e = some z → ∃ i j k, d = .int i ∧ e = .int j ∧ z = .int k ∧ g i j = .int k) : OpR X (binaryOp op) (O2 X.K f) := by
  intro pins s σ H x y v u Q I rx ry ⟨B, d, e, z, sb, hx, hy, hz, k⟩
  obtain ⟨i, j, l, rfl, rfl, rfl, hg⟩ := hf d e z hz
  cases hx; cases hy
  exact h pins s σ H _ _ v u Q I rx ry ⟨i, j, rfl, rfl, by rw [hg]; exact k _ H B (Gr.refl sb) (.int _)⟩
theorem o_sub : OpR X (binaryOp .Sub) (O2 X.K fSub) := o_int0 op_sub fun d e z h => by
  unfold fSub at h
  split at h
  · cases h; exact ⟨_, _, _, rfl, rfl, rfl, rfl⟩
  · cases h
theorem mulOk_of {i j : Int} (h : mulOk i j = true) : IntMulOk i j := by
  unfold mulOk at h
  simp only [Bool.or_eq_true, decide_eq_true_eq] at h
  rcases h with (h | h) | h
  · exact CMul.ok (.inl (by omega))
  · exact CMul.ok (.inr (by omega))
  · exact CMulW.ok h
theorem o_mul : OpR X (binaryOp .Mult) (O2 X.K fMul) := by
  intro pins s σ H x y v u Q I rx ry ⟨B, d, e, z, sb, hx, hy, hf, k⟩
  unfold fMul at hf
  split at hf
  · split at hf
    · rename_i hc
      cases hf; cases hx; cases hy
      obtain ⟨t, rfl⟩ := rx
      obtain ⟨t', rfl⟩ := ry
      exact mul_int ⟨.int _, H, I.tok _, ⟨_, rfl⟩, k _ H B (Gr.refl sb) (.int _)⟩ (mulOk_of hc)
    · cases hf
  · cases hf
theorem o_div : OpR X (binaryOp .FloorDiv) (O2 X.K fDiv) := by
  intro pins s σ H x y v u Q I rx ry ⟨B, d, e, z, sb, hx, hy, hf, k⟩
  unfold fDiv at hf
  split at hf
  · split at hf
    · rename_i hc
      cases hf; cases hx; cases hy
      obtain ⟨t, rfl⟩ := rx
      obtain ⟨t', rfl⟩ := ry
      unfold divOk at hc
      simp only [Bool.and_eq_true, Bool.or_eq_true, decide_eq_true_eq] at hc
      refine floordiv_int hc.1 ⟨.int _, H, I.tok _, ⟨_, rfl⟩, k _ H B (Gr.refl sb) (.int _)⟩ (.inl ?_)
      rcases hc.2 with h | h
      · exact PyProof.noPylong_small h
      · exact PyProof.noPylong_of_log2 h
    · cases hf
  · cases hf
theorem o_mod : OpR X (binaryOp .Mod) (O2 X.K fMod) := o_int op_modN fun d e z h => by
  unfold fMod at h
  split at h
  · split at h
    · cases h
    · rename_i hj
      cases h; exact ⟨_, _, _, rfl, rfl, rfl, hj, rfl⟩
  · cases h
theorem powOk_of {i j : Int} (h : powOk i j = true) : CPow i j := by
  unfold powOk at h
  simp only [Bool.and_eq_true, decide_eq_true_eq] at h
  exact ⟨h.1.1, h.1.2, h.2⟩
theorem o_pow : OpR X (binaryOp .Pow) (O2 X.K fPow) := o_int op_pow fun d e z h => by
  unfold fPow at h
  split at h
  · split at h
    · rename_i hj
      cases h; exact ⟨_, _, _, rfl, rfl, rfl, powOk_of hj, rfl⟩
    · cases h
  · cases h
theorem o_shl : OpR X (binaryOp .LShift) (O2 X.K fShl) := o_int op_shl fun d e z h => by
  unfold fShl at h
  split at h
  · split at h
    · rename_i hj
      cases h; exact ⟨_, _, _, rfl, rfl, rfl, powOk_of hj, rfl⟩
    · cases h
  · cases h
theorem o_shr : OpR X (binaryOp .RShift) (O2 X.K fShr) := o_int op_shr fun d e z h => by
  unfold fShr at h
  split at h
  · split at h
    · rename_i hj
      cases h; exact ⟨_, _, _, rfl, rfl, rfl, hj, rfl⟩
    · cases h
  · cases h
theorem o_and : OpR X (binaryOp .BitAnd) (O2 X.K fAnd) := o_int0 op_and fun d e z h => by
  unfold fAnd at h
  split at h
  · cases h; exact ⟨_, _, _, rfl, rfl, rfl, rfl⟩
  · cases h
theorem o_or : OpR X (binaryOp .BitOr) (O2 X.K fOr) := o_int0 op_or fun d e z h => by
  unfold fOr at h
  split at h
  · cases h; exact ⟨_, _, _, rfl, rfl, rfl, rfl⟩
  · cases h
theorem u_neg : UnR X (unaryOp .USub) (O1 X.K fNeg) := by
  intro pins s σ H x v Q I rx ⟨B, d, z, sb, hx, hf, k⟩
  unfold fNeg at hf
  split at hf
  · cases hf; cases hx
    exact un_neg pins s σ H _ v Q I rx ⟨_, rfl, k _ H B (Gr.refl sb) (.int _)⟩
  · cases hf
theorem u_inv : UnR X (unaryOp .Invert) (O1 X.K fInv) := by
  intro pins s σ H x v Q I rx ⟨B, d, z, sb, hx, hf, k⟩
  unfold fInv at hf
  split at hf
  · cases hf; cases hx
    exact un_inv pins s σ H _ v Q I rx ⟨_, rfl, k _ H B (Gr.refl sb) (.int _)⟩
  · cases hf
theorem eqD_of {B H : Hp} {x y : V} {d e : D} {b : Bool} (sb : Same B H) (hx : Dq X.K B x d) (hy : Dq X.K B y e) (h : eqD d e = some b) :
    (scal x y = true ∧ b = decide (x = y)) ∨ (Dp X.K H x d ∧ Dp X.K H y e ∧ SeqAt.shaped d = true ∧ SeqAt.shaped e = true ∧ b = PyData.eqv d e) ∨ eqE d e = some b := by
  unfold eqD at h
  split at h
  · cases h; cases hx; cases hy
    refine .inl ⟨rfl, ?_⟩
    rename_i p q
    by_cases z : p = q
    · rw [decide_eq_true z, decide_eq_true (by rw [z])]
    · rw [decide_eq_false z, decide_eq_false (fun w => z (V.str.inj w))]
  · split at h
    · rename_i hc
      cases h
      rw [Bool.and_eq_true] at hc
      exact .inr (.inl ⟨Dq.p _ _ (fit_dict _ hc.1) (Dq_up sb _ _ hx), Dq.p _ _ (fit_dict _ hc.2) (Dq_up sb _ _ hy), hc.1, hc.2, rfl⟩)
    · exact .inr (.inr h)
theorem empty_items {xs : List V} {ds : List D} {B : Hp} {us : List Value} (h : DqAll X.K B xs ds) (r : Vals xs us) : us.toArray.size = ds.length := by
  rw [List.size_toArray, ← r.length, h.len]
theorem eqE_run {pins : List (Addr × Obj)} {σ : L2.St} {H B : Hp} {s : Shared} {x y : V} {v u : Value} {d e : D} {b : Bool} (hu : X.A.units < cLine) (I : L2.Inv X pins σ H s) (rx : L2.RelV x v) (ry : L2.RelV y u) (sb : Same B H) (hx : Dq X.K B x d) (hy : Dq X.K B y e) (h : eqE d e = some b) :
    SeqAt.RcAt X.A s v u b ∧ SeqAt.RcNeAt X.A s v u (!b) := by
  unfold eqE at h
  split at h
  · rename_i ds
    cases h
    cases hx with
    | tup h1 h2 =>
      cases hy with
      | tup g1 g2 =>
        cases g2
        cases rx
        cases ry
        obtain ⟨us, r1, p1, _⟩ := I.tuple (sq_t sb h1)
        obtain ⟨ws, r2, p2, _⟩ := I.tuple (sq_t sb g1)
        cases r2
        have hl := empty_items h2 r1
        have e0 : ((List.range (min us.toArray.size ([] : List Value).toArray.size)).all (fun _ => true) && us.toArray.size == ([] : List Value).toArray.size) = ds.isEmpty := by
          rw [hl]
          cases ds <;> simp
        have q1 := SeqAt.RcAt.tuples (e := fun _ => true) p1 p2 hu fun j _ h => by simp at h
        have q2 := SeqAt.RcNeAt.tuples (e := fun _ => true) p1 p2 hu fun j _ h => by simp at h
        rw [e0] at q1 q2
        exact ⟨q1, q2⟩
  · rename_i ds
    cases h
    cases hx with
    | lst h1 h2 =>
      cases hy with
      | lst g1 g2 =>
        cases g2
        cases rx
        cases ry
        obtain ⟨us, r1, p1, _⟩ := I.list (SqL.of (sb _ _ h1))
        obtain ⟨ws, r2, p2, _⟩ := I.list (SqL.of (sb _ _ g1))
        cases r2
        have hl := empty_items h2 r1
        cases ds with
        | nil =>
          have hz : us.toArray.size = ([] : List Value).toArray.size := hl
          have e0 : (List.range us.toArray.size).all (fun _ => true) = true := by simp
          have q1 := SeqAt.RcAt.lists (e := fun _ => true) p1.isList p2.isList hz hu fun j _ h => by simp at h
          have q2 := SeqAt.RcNeAt.lists (e := fun _ => true) p1.isList p2.isList hz hu fun j _ h => by simp at h
          rw [e0] at q1 q2
          exact ⟨q1, q2⟩
        | cons d r =>
          have hz : (us.toArray.size != ([] : List Value).toArray.size) = true := by rw [hl]; simp
          exact ⟨SeqAt.RcAt.lists_lengths p1.isList p2.isList hz hu, SeqAt.RcNeAt.lists_lengths p1.isList p2.isList hz hu⟩
  · cases h
theorem o_eq (hu : X.A.units + 65 < cLine) : OpR X (compareOp .Eq) (O2 X.K fEq) := by
  intro pins s σ H x y v u Q I rx ry ⟨B, d, e, z, sb, hx, hy, hf, k⟩
  obtain ⟨b, h1, h2⟩ := mpd hf
  subst h2
  rcases eqD_of sb hx hy h1 with ⟨h3, h4⟩ | ⟨h3, h4, h5, h6, h7⟩ | h3
  · exact op_eq pins s σ H x y v u Q I rx ry ⟨h3, by rw [← h4]; exact k _ H B (Gr.refl sb) (.bl _)⟩
  · exact op_eqD (by omega) pins s σ H x y v u Q I rx ry ⟨d, e, h3, h4, h5, h6, by rw [← h7]; exact k _ H B (Gr.refl sb) (.bl _)⟩
  · exact (eqE_run (by omega) I rx ry sb hx hy h3).1 _ _ _ _ ⟨.bl _, H, I, rfl, k _ H B (Gr.refl sb) (.bl _)⟩
theorem o_ne (hu : X.A.units + 65 < cLine) : OpR X (compareOp .NotEq) (O2 X.K fNe) := by
  intro pins s σ H x y v u Q I rx ry ⟨B, d, e, z, sb, hx, hy, hf, k⟩
  obtain ⟨b, h1, h2⟩ := mpd hf
  subst h2
  rcases eqD_of sb hx hy h1 with ⟨h3, h4⟩ | ⟨h3, h4, h5, h6, h7⟩ | h3
  · exact op_ne pins s σ H x y v u Q I rx ry ⟨h3, by rw [← h4]; exact k _ H B (Gr.refl sb) (.bl _)⟩
  · exact op_neD (by omega) pins s σ H x y v u Q I rx ry ⟨d, e, h3, h4, h5, h6, by rw [← h7]; exact k _ H B (Gr.refl sb) (.bl _)⟩
  · exact (eqE_run (by omega) I rx ry sb hx hy h3).2 _ _ _ _ ⟨.bl _, H, I, rfl, k _ H B (Gr.refl sb) (.bl _)⟩
/-- an order's rule, over the library's -/
theorem o_ord {op : CmpOp} {p : Int → Int → Bool} {lt : D → D → Bool} {f : D → D → Option D} (hu : X.A.units + 65 < cLine) (hi : OpR X (compareOp op) (rI0 fun i j => .bl (p i j)))
    (hl : ∀ (s : Shared) (a b : Value) (da db : D) (as bs : List Addr) (Q : Value → Shared → Prop), Reads s.heap a da as → Reads s.heap b db bs → PySem.W.alike da db = true → da ≠ .none → X.A.units + min da.depth db.depth < cLine → Q (.bool (lt da db)) s → wpAny (model X.prog X.w) X.A (compareOp op a b) Q X.xe s)
    (hf : ∀ d e z, f d e = some z → (∃ i j, d = .int i ∧ e = .int j ∧ z = .bool (p i j)) ∨ (ltOk d e = true ∧ z = .bool (lt d e))) : OpR X (compareOp op) (O2 X.K f) := by
  intro pins s σ H x y v u Q I rx ry ⟨B, d, e, z, sb, hx, hy, hz, k⟩
  rcases hf d e z hz with ⟨i, j, rfl, rfl, rfl⟩ | ⟨ho, rfl⟩
  · cases hx; cases hy
    exact hi pins s σ H _ _ v u Q I rx ry ⟨i, j, rfl, rfl, k _ H B (Gr.refl sb) (.bl _)⟩
  · unfold ltOk at ho
    simp only [Bool.and_eq_true, decide_eq_true_eq] at ho
    have hn : d ≠ .none := fun z => by
      have q := ho.1.2
      rw [z] at q; cases q
    obtain ⟨as, r1⟩ := Dq.reads I d x v (Dq_up sb _ _ hx) rx
    obtain ⟨bs, r2⟩ := Dq.reads I e y u (Dq_up sb _ _ hy) ry
    have hm : min d.depth e.depth ≤ d.depth := Nat.min_le_left _ _
    exact hl s v u d e as bs _ r1 r2 ho.1.1 hn (by omega) ⟨.bl _, H, I, rfl, k _ H B (Gr.refl sb) (.bl _)⟩
theorem o_lt (hu : X.A.units + 65 < cLine) : OpR X (compareOp .Lt) (O2 X.K fLt) := o_ord (lt := PySem.W.dataLt) hu op_lt (fun s a b da db as bs Q r1 r2 h1 h2 h3 q => PySem.W.lt_data r1 r2 h1 h2 h3 q) fun d e z h => by
  unfold fLt at h
  split at h
  · cases h; exact .inl ⟨_, _, rfl, rfl, rfl⟩
  · split at h
    · rename_i ho
      cases h; exact .inr ⟨ho, rfl⟩
    · cases h
theorem o_gt (hu : X.A.units + 65 < cLine) : OpR X (compareOp .Gt) (O2 X.K fGt) := o_ord (lt := fun d e => PySem.W.dataLt e d) hu op_gt (fun s a b da db as bs Q r1 r2 h1 h2 h3 q => PySem.W.gt_data r1 r2 h1 h2 h3 q) fun d e z h => by
  unfold fGt at h
  split at h
  · cases h; exact .inl ⟨_, _, rfl, rfl, rfl⟩
  · split at h
    · rename_i ho
      cases h; exact .inr ⟨ho, rfl⟩
    · cases h
theorem o_le (hu : X.A.units + 65 < cLine) : OpR X (compareOp .LtE) (O2 X.K fLe) := o_ord (lt := fun d e => !PySem.W.dataLt e d) hu op_le (fun s a b da db as bs Q r1 r2 h1 h2 h3 q => PySem.W.le_data r1 r2 h1 h2 h3 q) fun d e z h => by
  unfold fLe at h
  split at h
  · cases h; exact .inl ⟨_, _, rfl, rfl, rfl⟩
  · split at h
    · rename_i ho
      cases h; exact .inr ⟨ho, rfl⟩
    · cases h
theorem o_ge (hu : X.A.units + 65 < cLine) : OpR X (compareOp .GtE) (O2 X.K fGe) := o_ord (lt := fun d e => !PySem.W.dataLt d e) hu op_ge (fun s a b da db as bs Q r1 r2 h1 h2 h3 q => PySem.W.ge_data r1 r2 h1 h2 h3 q) fun d e z h => by
  unfold fGe at h
  split at h
  · cases h; exact .inl ⟨_, _, rfl, rfl, rfl⟩
  · split at h
    · rename_i ho
      cases h; exact .inr ⟨ho, rfl⟩
    · cases h
theorem isIn_of {d e : D} {b : Bool} (h : isIn d e = some b) : ∃ ds, items e = some ds ∧ SeqAt.shaped d = true ∧ SeqAt.shaped e = true ∧ b = ds.any fun z => PyData.eqv z d := by
  obtain ⟨ds, h1, h2⟩ := bnd h
  split at h2
  · rename_i hc
    cases h2
    rw [Bool.and_eq_true] at hc
    exact ⟨ds, h1, hc.1, hc.2, rfl⟩
  · cases h2
theorem o_in (hu : X.A.units + 65 < cLine) : OpR X (compareOp .In) (O2 X.K fIn) := by
  intro pins s σ H x y v u Q I rx ry ⟨B, d, e, z, sb, hx, hy, hf, k⟩
  obtain ⟨b, h1, h2⟩ := mpd hf
  subst h2
  obtain ⟨ds, e1, sd, se, rfl⟩ := isIn_of h1
  obtain ⟨as, r1⟩ := Dq.reads I d x v (Dq_up sb _ _ hx) rx
  obtain ⟨bs, r2⟩ := Dq.reads I e y u (Dq_up sb _ _ hy) ry
  cases e with
  | list es =>
    cases e1
    exact SeqAt.in_list_reads r2 r1 (SeqAt.canLay_of_shaped se) (SeqAt.canLay_of_shaped sd) (room_in_shaped sd hu) ⟨.bl _, H, I, rfl, k _ H B (Gr.refl sb) (.bl _)⟩
  | tuple es =>
    cases e1
    exact SeqAt.in_tuple_reads r2 r1 (SeqAt.canLay_of_shaped se) (SeqAt.canLay_of_shaped sd) (room_in_shaped sd hu) ⟨.bl _, H, I, rfl, k _ H B (Gr.refl sb) (.bl _)⟩
  | _ => cases e1
theorem o_nin (hu : X.A.units + 65 < cLine) : OpR X (compareOp .NotIn) (O2 X.K fNin) := by
  intro pins s σ H x y v u Q I rx ry ⟨B, d, e, z, sb, hx, hy, hf, k⟩
  obtain ⟨b, h1, h2⟩ := mpd hf
  subst h2
  obtain ⟨ds, e1, sd, se, rfl⟩ := isIn_of h1
  obtain ⟨as, r1⟩ := Dq.reads I d x v (Dq_up sb _ _ hx) rx
  obtain ⟨bs, r2⟩ := Dq.reads I e y u (Dq_up sb _ _ hy) ry
  cases e with
  | list es =>
    cases e1
    exact SeqAt.notIn_list_reads r2 r1 (SeqAt.canLay_of_shaped se) (SeqAt.canLay_of_shaped sd) (room_in_shaped sd hu) ⟨.bl _, H, I, rfl, k _ H B (Gr.refl sb) (.bl _)⟩
  | tuple es =>
    cases e1
    exact SeqAt.notIn_tuple_reads r2 r1 (SeqAt.canLay_of_shaped se) (SeqAt.canLay_of_shaped sd) (room_in_shaped sd hu) ⟨.bl _, H, I, rfl, k _ H B (Gr.refl sb) (.bl _)⟩
  | _ => cases e1
theorem o_is : OpR X (compareOp .Is) (O2 X.K fIs) := by
  intro pins s σ H x y v u Q I rx ry ⟨B, d, e, z, sb, hx, hy, hf, k⟩
  unfold fIs at hf
  split at hf
  · cases hy
    have hb : z = .bool (decide (x = .non)) := by
      cases hx <;> cases hf <;> rfl
    exact op_isN pins s σ H x _ v u Q I rx ry ⟨rfl, k _ H B (Gr.refl sb) (by rw [hb]; exact .bl _)⟩
  · cases hf
theorem o_isn : OpR X (compareOp .IsNot) (O2 X.K fIsn) := by
  intro pins s σ H x y v u Q I rx ry ⟨B, d, e, z, sb, hx, hy, hf, k⟩
  unfold fIsn at hf
  split at hf
  · cases hy
    have hb : z = .bool (!decide (x = .non)) := by
      cases hx <;> cases hf <;> rfl
    exact op_notN pins s σ H x _ v u Q I rx ry ⟨rfl, k _ H B (Gr.refl sb) (by rw [hb]; exact .bl _)⟩
  · cases hf
theorem atI_rel {B : Hp} {xs : List V} {ds : List D} {i : Int} {d : D} (h : DqAll X.K B xs ds) (e : atI ds i = some d) : ∃ v, atI xs i = some v ∧ Dq X.K B v d := by
  unfold atI at e
  obtain ⟨j, e1, e2⟩ := bnd e
  obtain ⟨v, h1, h2⟩ := DqAll.has h e2
  refine ⟨v, ?_, h2⟩
  unfold atI
  rw [DqAll.len h, e1]
  exact h1
theorem i_ix : IxR X (O2 X.K fIx) := by
  intro value slice pins s σ H x y v u Q I rx ry ⟨B, d, e, z, sb, hx, hy, hf, k⟩ hs
  refine ix_seq value slice pins s σ H x y v u Q I rx ry ?_ hs
  unfold fIx at hf
  split at hf
  · cases hx with
    | lst h1 h2 =>
      cases hy
      obtain ⟨w, e1, e2⟩ := atI_rel h2 hf
      exact .inl ⟨_, _, _, _, rfl, rfl, SqL.of (sb _ _ h1), e1, k _ H B (Gr.refl sb) e2⟩
  · cases hx with
    | tup h1 h2 =>
      cases hy
      obtain ⟨w, e1, e2⟩ := atI_rel h2 hf
      exact .inr (.inl ⟨_, _, _, _, rfl, rfl, sq_t sb h1, e1, k _ H B (Gr.refl sb) e2⟩)
  · split at hf
    · rename_i hl
      cases hx; cases hy
      obtain ⟨c, e1, e2⟩ := mpd hf
      exact .inr (.inr ⟨_, _, c, rfl, rfl, hl, e1, k _ H B (Gr.refl sb) (by rw [← e2]; exact .str _)⟩)
    · cases hf
  · cases hf
end
end FL

namespace FL
open PySem PySem.Spec PyProof.Rows L2

/-! ### built-in functions -/
def fLen : List D → Option D
  | [.list ds] => some (.int ds.length)
  | [.tuple ds] => some (.int ds.length)
  | [.str x] => if x.length ≤ sizeLine then some (.int x.length) else none
  | _ => none
def fAbs : List D → Option D
  | [.int i] => some (.int i.natAbs)
  | _ => none
def fInt : List D → Option D
  | [.int i] => some (.int i)
  | [.bool b] => some (.int (if b then 1 else 0))
  | _ => none
def fTuple : List D → Option D
  | [.list ds] => some (.tuple ds)
  | [.tuple ds] => some (.tuple ds)
  | _ => none
def fList : List D → Option (List D)
  | [.list ds] => some ds
  | [.tuple ds] => some ds
  | _ => none
def intsOf : List D → Option (List Int)
  | [] => some []
  | .int i :: r => (intsOf r).map (i :: ·)
  | _ => none
def boolsOf : List D → Option (List Bool)
  | [] => some []
  | .bool i :: r => (boolsOf r).map (i :: ·)
  | _ => none
def fSum : List D → Option D
  | [d] => (items d).bind fun ds => (intsOf ds).map fun ns => .int ns.sum
  | _ => none
def fAll : List D → Option D
  | [.list ds] => (boolsOf ds).map fun bs => .bool (bs.all id)
  | _ => none
def isBI : D → Bool
  | .bool _ => true
  | .int _ => true
  | _ => false
theorem isBI_pl : ∀ ds : List D, ds.all isBI = true → PyData.plainAll ds = true
  | [], _ => rfl
  | d :: r, h => by
    rw [List.all_cons, Bool.and_eq_true] at h
    rw [PyData.plainAll, Bool.and_eq_true]
    refine ⟨?_, isBI_pl r h.2⟩
    cases d <;> first | rfl | cases h.1
theorem isBI_fits {d : D} (h : isBI d = true) : d.fits63 := by
  cases d <;> first | trivial | cases h
def fAny : List D → Option D
  | [.list ds] => (boolsOf ds).map fun bs => .bool (bs.any id)
  | [.tuple ds] => if ds.all isBI = true then some (.bool (ds.any PyData.truthy)) else none
  | _ => none
def alikeB (ds : List D) : Bool := ds.all (fun x => ds.all fun y => PySem.W.alike x y) && ds.all (fun x => !isNon x) && decide (PyData.depthAll ds ≤ 64)
def maxL : List D → Option D
  | x :: r => if alikeB (x :: r) = true then some (PySem.W.maxD x r) else none
  | [] => none
def minL : List D → Option D
  | x :: r => if alikeB (x :: r) = true then some (PySem.W.minD x r) else none
  | [] => none
def fMax : List D → Option D
  | [d] => (items d).bind maxL
  | [.int i, .int j] => some (.int (if j > i then j else i))
  | _ => none
def fMin : List D → Option D
  | [d] => (items d).bind minL
  | [.int i, .int j] => some (.int (if j < i then j else i))
  | _ => none
def fRepr : List D → Option D
  | [d] => if d.showable = true ∧ d.depth ≤ 64 ∧ d.shown.length ≤ sizeLine then some (.str d.shown) else none
  | _ => none
theorem ints_of : ∀ {ds : List D} {ns : List Int}, intsOf ds = some ns → ds = ns.map .int
  | [], ns, h => by cases h; rfl
  | .int i :: r, ns, h => by
    obtain ⟨ms, h1, h2⟩ := mpd (show (intsOf r).map (i :: ·) = some ns from h)
    subst h2
    rw [ints_of h1]; rfl
  | .none :: _, _, h => by cases h
  | .bool _ :: _, _, h => by cases h
  | .str _ :: _, _, h => by cases h
  | .list _ :: _, _, h => by cases h
  | .tuple _ :: _, _, h => by cases h
  | .dict _ :: _, _, h => by cases h
theorem bools_of : ∀ {ds : List D} {ns : List Bool}, boolsOf ds = some ns → ds = ns.map .bool
  | [], ns, h => by cases h; rfl
  | .bool i :: r, ns, h => by
    obtain ⟨ms, h1, h2⟩ := mpd (show (boolsOf r).map (i :: ·) = some ns from h)
    subst h2
    rw [bools_of h1]; rfl
  | .none :: _, _, h => by cases h
  | .int _ :: _, _, h => by cases h
  | .str _ :: _, _, h => by cases h
  | .list _ :: _, _, h => by cases h
  | .tuple _ :: _, _, h => by cases h
  | .dict _ :: _, _, h => by cases h
theorem vals_int {K : PySem.W.Frag} {B : Hp} : ∀ {ns : List Int} {xs : List V}, DqAll K B xs (ns.map .int) → xs = ns.map V.int
  | [], _, h => by cases h; rfl
  | n :: r, _, h => by
    cases h with
    | cons h1 h2 =>
      cases h1
      rw [vals_int h2]; rfl
theorem vals_bool {K : PySem.W.Frag} {B : Hp} : ∀ {ns : List Bool} {xs : List V}, DqAll K B xs (ns.map .bool) → xs = ns.map V.bl
  | [], _, h => by cases h; rfl
  | n :: r, _, h => by
    cases h with
    | cons h1 h2 =>
      cases h1
      rw [vals_bool h2]; rfl
theorem alikeB_of {ds : List D} (h : alikeB ds = true) : PySem.W.AlikeAll ds ∧ PyData.depthAll ds ≤ 64 := by
  unfold alikeB at h
  simp only [Bool.and_eq_true, decide_eq_true_eq] at h
  refine ⟨⟨fun x hx y hy => List.all_eq_true.mp (List.all_eq_true.mp h.1.1 x hx) y hy, fun x hx z => ?_⟩, h.2⟩
  have := List.all_eq_true.mp h.1.2 x hx
  rw [z] at this; cases this

section
variable {X : Cx}
theorem v1r {a : Addr} {us : List Value} (h : Vals [V.ref a] us) : us = [.ref a] := by
  cases h with
  | cons h1 h2 =>
    cases h2
    cases (show _ = Value.ref a from h1)
    rfl
theorem c_len : CallR X (.builtin "len") (ON X.K fLen) := by
  intro pins s σ H xs us Q I r ⟨B, ds, z, sb, hx, hf, k⟩
  refine call_len pins s σ H xs us Q I r ?_
  unfold fLen at hf
  split at hf
  · cases hf
    cases hx with
    | cons h1 h2 =>
      cases h2
      cases h1 with
      | lst g1 g2 => exact ⟨_, _, rfl, .inl ⟨_, SqL.of (sb _ _ g1), (DqAll.len g2).symm⟩, k _ H B (Gr.refl sb) (.int _)⟩
  · cases hf
    cases hx with
    | cons h1 h2 =>
      cases h2
      cases h1 with
      | tup g1 g2 => exact ⟨_, _, rfl, .inr ⟨_, sq_t sb g1, (DqAll.len g2).symm⟩, k _ H B (Gr.refl sb) (.int _)⟩
  · split at hf
    · rename_i hl
      cases hf
      cases hx with
      | cons h1 h2 =>
        cases h2
        cases h1
        exact ⟨_, _, rfl, ⟨hl, rfl⟩, k _ H B (Gr.refl sb) (.int _)⟩
    · cases hf
  · cases hf
theorem c_abs : CallR X (.builtin "abs") (ON X.K fAbs) := by
  intro pins s σ H xs us Q I r ⟨B, ds, z, sb, hx, hf, k⟩
  refine call_abs pins s σ H xs us Q I r ?_
  unfold fAbs at hf
  split at hf
  · rename_i i
    cases hf
    cases hx with
    | cons h1 h2 =>
      cases h2
      cases h1
      refine ⟨i, rfl, ?_⟩
      rw [show (if i < 0 then -i else i) = (i.natAbs : Int) by split <;> omega]
      exact k _ H B (Gr.refl sb) (.int _)
  · cases hf
theorem c_int : CallR X (.type "int") (ON X.K fInt) := by
  intro pins s σ H xs us Q I r ⟨B, ds, z, sb, hx, hf, k⟩
  refine call_int1 pins s σ H xs us Q I r ?_
  unfold fInt at hf
  split at hf
  · cases hf
    cases hx with
    | cons h1 h2 =>
      cases h2
      cases h1
      exact .inl ⟨_, rfl, k _ H B (Gr.refl sb) (.int _)⟩
  · cases hf
    cases hx with
    | cons h1 h2 =>
      cases h2
      cases h1
      exact .inr ⟨_, rfl, k _ H B (Gr.refl sb) (.int _)⟩
  · cases hf
theorem c_tuple : CallR X (.type "tuple") (ON X.K fTuple) := by
  intro pins s σ H xs us Q I r ⟨B, ds, z, sb, hx, hf, k⟩
  refine call_tuple_of pins s σ H xs us Q I r ?_
  unfold fTuple at hf
  split at hf
  · cases hf
    cases hx with
    | cons h1 h2 =>
      cases h2
      cases h1 with
      | lst g1 g2 => exact ⟨_, _, rfl, .inl ⟨SqL.of (sb _ _ g1), fun p hp => k _ _ _ (Gr.new sb hp) (.tup (SqT.of upd_same) (DqA_up (Same.put (sb.free hp)) _ _ g2))⟩⟩
  · cases hf
    cases hx with
    | cons h1 h2 =>
      cases h2
      cases h1 with
      | tup g1 g2 => exact ⟨_, _, rfl, .inr ⟨sq_t sb g1, k _ H B (Gr.refl sb) (.tup g1 g2)⟩⟩
  · cases hf
theorem c_list : CallR X (.type "list") (ONL X.K fList) := by
  intro pins s σ H xs us Q I r ⟨B, ds, z, sb, hx, hf, k⟩
  refine call_list_of pins s σ H xs us Q I r ?_
  unfold fList at hf
  split at hf
  · cases hf
    cases hx with
    | cons h1 h2 =>
      cases h2
      cases h1 with
      | lst g1 g2 => exact ⟨_, _, rfl, .inl (SqL.of (sb _ _ g1)), fun p hp => k p _ _ B (Gr.lay sb hp) hp (sb.free hp) upd_same g2⟩
  · cases hf
    cases hx with
    | cons h1 h2 =>
      cases h2
      cases h1 with
      | tup g1 g2 => exact ⟨_, _, rfl, .inr (sq_t sb g1), fun p hp => k p _ _ B (Gr.lay sb hp) hp (sb.free hp) upd_same g2⟩
  · cases hf
theorem c_all (hc : X.calm = true) : CallR X (.builtin "all") (ON X.K fAll) := by
  intro pins s σ H xs us Q I r ⟨B, ds, z, sb, hx, hf, k⟩
  refine cr_all hc pins s σ H xs us Q I r ?_
  unfold fAll at hf
  split at hf
  · obtain ⟨bs, h1, h2⟩ := mpd hf
    subst h2
    rw [bools_of h1] at hx
    cases hx with
    | cons h1 h2 =>
      cases h2
      cases h1 with
      | lst g1 g2 => exact ⟨_, bs, rfl, by rw [← vals_bool g2]; exact SqL.of (sb _ _ g1), k _ H B (Gr.refl sb) (.bl _)⟩
  · cases hf
theorem reads_all0 {pins : List (Addr × Obj)} {σ : L2.St} {H B : Hp} {s : Shared} {xs : List V} {its : List Value} {ds : List D} (I : L2.Inv X pins σ H s) (sb : Same B H) (g : DqAll X.K B xs ds) (rv : Vals xs its) : ∃ as, ReadsAll s.heap its ds as :=
  DqAll.reads I ds xs its (DqA_up sb _ _ g) rv
theorem c_any (hc : X.calm = true) : CallR X (.builtin "any") (ON X.K fAny) := by
  intro pins s σ H xs us Q I r ⟨B, ds, z, sb, hx, hf, k⟩
  unfold fAny at hf
  split at hf
  · obtain ⟨bs, h1, h2⟩ := mpd hf
    subst h2
    rw [bools_of h1] at hx
    cases hx with
    | cons h1 h2 =>
      cases h2
      cases h1 with
      | lst g1 g2 => exact cr_any hc pins s σ H _ us Q I r ⟨_, bs, rfl, by rw [← vals_bool g2]; exact SqL.of (sb _ _ g1), k _ H B (Gr.refl sb) (.bl _)⟩
  · split at hf
    · rename_i hb
      cases hf
      cases hx with
      | cons h1 h2 =>
        cases h2
        cases h1 with
        | tup g1 g2 =>
          obtain ⟨its, rv, hl, _⟩ := I.tuple (sq_t sb g1)
          obtain ⟨as, hr⟩ := reads_all0 I sb g2 rv
          rw [v1r r]
          refine PySem.W.any_tuple_data (I.ok.hd hc) (show s.heap.IsTuple _ its.toArray from hl) hr (isBI_pl _ hb) (fun x hx => isBI_fits (List.all_eq_true.mp hb x hx)) fun h' tk hk => ?_
          exact ⟨.bl _, H, I.kept hk, by show Value.bool _ = Value.bool _; rfl, k _ H B (Gr.refl sb) (.bl _)⟩
    · cases hf
  · cases hf
theorem sum_tup {P : Program} {w : World} {A : Around} {E : Value → Shared → Prop} {s : Shared} {t : Addr} {vs : List Value} {ns : List Int} {Q : Value → Shared → Prop} (hh : A.handled = none) (ht : s.heap.IsTuple t vs.toArray) (hi : IntsAre vs ns)
    (h : ∀ h' tk t', (∀ b o, s.heap.get? b = some o → h'.get? b = some o) → Q (.int ns.sum t') { s with heap := h', toks := tk }) : wpAny (model P w) A (call (.builtin "sum") [.ref t]) Q E s := by
  obtain ⟨xs, hx⟩ := hi.allInts.items
  have hn : numsOf vs.toArray.toList = ns := hi.numsOf
  rw [hx] at ht hn
  rw [nums_intItems] at hn
  refine PySem.W.ktm_sumG hh ht fun h' tk t' hk => ?_
  rw [preSum_eq, List.take_of_length_le (by simp), hn]
  exact h h' tk t' hk
theorem c_sum (hc : X.calm = true) : CallR X (.builtin "sum") (ON X.K fSum) := by
  intro pins s σ H xs us Q I r ⟨B, ds, z, sb, hx, hf, k⟩
  unfold fSum at hf
  split at hf
  · rename_i d
    obtain ⟨es, h1, h2⟩ := bnd hf
    obtain ⟨ns, h3, h4⟩ := mpd h2
    subst h4
    have e := ints_of h3
    subst e
    cases hx with
    | cons q1 q2 =>
      cases q2
      cases d with
      | list fs =>
        cases h1
        cases q1 with
        | lst g1 g2 =>
          refine cr_sum hc pins s σ H _ us Q I r ⟨_, ns, rfl, by rw [← vals_int g2]; exact SqL.of (sb _ _ g1), k _ H B (Gr.refl sb) (.int _)⟩
      | tuple fs =>
        cases h1
        cases q1 with
        | tup g1 g2 =>
          obtain ⟨its, rv, ht, _⟩ := I.tuple (sq_t sb g1)
          rw [v1r r]
          rw [vals_int g2] at rv
          exact sum_tup (I.ok.hd hc) (show s.heap.IsTuple _ its.toArray from ht) rv.ints fun h' tk t' hk => ⟨.int _, H, I.kept hk, ⟨_, rfl⟩, k _ H B (Gr.refl sb) (.int _)⟩
      | _ => cases h1
  · cases hf
/-- the item that the library hands back is one of ours -/
theorem pick {pins : List (Addr × Obj)} {σ : L2.St} {H B : Hp} {s : Shared} {xs : List V} {its : List Value} {ds : List D} {i : Nat} {v : Value} {h' : Heap} {m : D} {bs : List Addr} (I : L2.Inv X pins σ H s) (sb : Same B H) (g : DqAll X.K B xs ds) (rv : Vals xs its)
    (hv : its[i]? = some v) (hr : Reads h' v m bs) (hk : ∀ b o, s.heap.get? b = some o → h'.get? b = some o) : ∃ x, L2.RelV x v ∧ Dq X.K B x m := by
  have hi : i < xs.length := by
    rw [rv.length]
    exact (List.getElem?_eq_some_iff.mp hv).1
  have e1 : xs[i]? = some xs[i] := List.getElem?_eq_getElem hi
  obtain ⟨u, e2, ru⟩ := rv.get e1
  rw [hv] at e2
  cases e2
  obtain ⟨d, e3, hd⟩ := DqAll.has' g e1
  obtain ⟨as, hd'⟩ := Dq.reads I d xs[i] v (Dq_up sb _ _ hd) ru
  have := (reads_det (fun b o e _ => hk b o e) hd' hr).1
  subst this
  exact ⟨_, ru, hd⟩
theorem reads_all {pins : List (Addr × Obj)} {σ : L2.St} {H B : Hp} {s : Shared} {xs : List V} {its : List Value} {ds : List D} (I : L2.Inv X pins σ H s) (sb : Same B H) (g : DqAll X.K B xs ds) (rv : Vals xs its) : ∃ as, ReadsAll s.heap its ds as :=
  DqAll.reads I ds xs its (DqA_up sb _ _ g) rv
theorem c_maxL (hc : X.calm = true) (hu : X.A.units + 65 < cLine) {pins : List (Addr × Obj)} {s : Shared} {σ : L2.St} {H B : Hp} {v : V} {u : Value} {d z : D} {Q : VK} (I : L2.Inv X pins σ H s) (rx : L2.RelV v u) (sb : Same B H) (hx : Dq X.K B v d) (hf : (items d).bind maxL = some z)
    (k : ∀ v H' B', Gr B H B' H' → Dq X.K B' v z → Q v H') : wpAny (model X.prog X.w) X.A (call (.builtin "max") [u]) (EP X pins σ Q) X.xe s := by
  obtain ⟨ds, h1, h2⟩ := bnd hf
  cases ds with
  | nil => cases h2
  | cons y r =>
    have h2 : (if alikeB (y :: r) = true then some (PySem.W.maxD y r) else none) = some z := h2
    split at h2
    · rename_i ha
      cases h2
      obtain ⟨ha, hd⟩ := alikeB_of ha
      cases d with
      | list fs =>
        cases h1
        cases hx with
        | lst g1 g2 =>
          cases rx
          obtain ⟨its, rv, hl, _⟩ := I.list (SqL.of (sb _ _ g1))
          obtain ⟨as, hr⟩ := reads_all I sb g2 rv
          refine PySem.W.max_list_data (I.ok.hd hc) hl.isList hr ha (by omega) fun i v h' tk bs hv hr' hk => ?_
          obtain ⟨x, ru, hd⟩ := pick I sb g2 rv (by simpa using hv) hr' hk
          exact ⟨x, H, I.kept hk, ru, k _ H B (Gr.refl sb) hd⟩
      | tuple fs =>
        cases h1
        cases hx with
        | tup g1 g2 =>
          cases rx
          obtain ⟨its, rv, hl, _⟩ := I.tuple (sq_t sb g1)
          obtain ⟨as, hr⟩ := reads_all I sb g2 rv
          refine PySem.W.max_tuple_data (I.ok.hd hc) (show s.heap.IsTuple _ its.toArray from hl) hr ha (by omega) fun i v h' tk bs hv hr' hk => ?_
          obtain ⟨x, ru, hd⟩ := pick I sb g2 rv (by simpa using hv) hr' hk
          exact ⟨x, H, I.kept hk, ru, k _ H B (Gr.refl sb) hd⟩
      | _ => cases h1
    · cases h2
theorem c_minL (hc : X.calm = true) (hu : X.A.units + 65 < cLine) {pins : List (Addr × Obj)} {s : Shared} {σ : L2.St} {H B : Hp} {v : V} {u : Value} {d z : D} {Q : VK} (I : L2.Inv X pins σ H s) (rx : L2.RelV v u) (sb : Same B H) (hx : Dq X.K B v d) (hf : (items d).bind minL = some z)
    (k : ∀ v H' B', Gr B H B' H' → Dq X.K B' v z → Q v H') : wpAny (model X.prog X.w) X.A (call (.builtin "min") [u]) (EP X pins σ Q) X.xe s := by
  obtain ⟨ds, h1, h2⟩ := bnd hf
  cases ds with
  | nil => cases h2
  | cons y r =>
    have h2 : (if alikeB (y :: r) = true then some (PySem.W.minD y r) else none) = some z := h2
    split at h2
    · rename_i ha
      cases h2
      obtain ⟨ha, hd⟩ := alikeB_of ha
      cases d with
      | list fs =>
        cases h1
        cases hx with
        | lst g1 g2 =>
          cases rx
          obtain ⟨its, rv, hl, _⟩ := I.list (SqL.of (sb _ _ g1))
          obtain ⟨as, hr⟩ := reads_all I sb g2 rv
          refine PySem.W.min_list_data (I.ok.hd hc) hl.isList hr ha (by omega) fun i v h' tk bs hv hr' hk => ?_
          obtain ⟨x, ru, hd⟩ := pick I sb g2 rv (by simpa using hv) hr' hk
          exact ⟨x, H, I.kept hk, ru, k _ H B (Gr.refl sb) hd⟩
      | tuple fs =>
        cases h1
        cases hx with
        | tup g1 g2 =>
          cases rx
          obtain ⟨its, rv, hl, _⟩ := I.tuple (sq_t sb g1)
          obtain ⟨as, hr⟩ := reads_all I sb g2 rv
          refine PySem.W.min_tuple_data (I.ok.hd hc) (show s.heap.IsTuple _ its.toArray from hl) hr ha (by omega) fun i v h' tk bs hv hr' hk => ?_
          obtain ⟨x, ru, hd⟩ := pick I sb g2 rv (by simpa using hv) hr' hk
          exact ⟨x, H, I.kept hk, ru, k _ H B (Gr.refl sb) hd⟩
      | _ => cases h1
    · cases h2
theorem c_max (hc : X.calm = true) (hu : X.A.units + 65 < cLine) : CallR X (.builtin "max") (ON X.K fMax) := by
  intro pins s σ H xs us Q I r ⟨B, ds, z, sb, hx, hf, k⟩
  unfold fMax at hf
  split at hf
  · cases hx with
    | cons q1 q2 =>
      cases q2
      cases r with
      | cons r1 r2 =>
        cases r2
        exact c_maxL hc hu I r1 sb q1 hf k
  · cases hf
    cases hx with
    | cons q1 q2 =>
      cases q2 with
      | cons q2 q3 =>
        cases q3
        cases q1
        cases q2
        exact call_max2 hc pins s σ H _ us Q I r ⟨_, _, rfl, k _ H B (Gr.refl sb) (.int _)⟩
  · cases hf
theorem c_min (hc : X.calm = true) (hu : X.A.units + 65 < cLine) : CallR X (.builtin "min") (ON X.K fMin) := by
  intro pins s σ H xs us Q I r ⟨B, ds, z, sb, hx, hf, k⟩
  unfold fMin at hf
  split at hf
  · cases hx with
    | cons q1 q2 =>
      cases q2
      cases r with
      | cons r1 r2 =>
        cases r2
        exact c_minL hc hu I r1 sb q1 hf k
  · cases hf
    cases hx with
    | cons q1 q2 =>
      cases q2 with
      | cons q2 q3 =>
        cases q3
        cases q1
        cases q2
        exact call_min2 hc pins s σ H _ us Q I r ⟨_, _, rfl, k _ H B (Gr.refl sb) (.int _)⟩
  · cases hf
theorem c_repr (hg : X.A.guards = some []) (hu : X.A.units + 70 < cLine) : CallR X (.builtin "repr") (ON X.K fRepr) := by
  intro pins s σ H xs us Q I r ⟨B, ds, z, sb, hx, hf, k⟩
  unfold fRepr at hf
  split at hf
  · split at hf
    · rename_i d hc
      obtain ⟨h1, h3, h4⟩ := hc
      cases hf
      cases hx with
      | cons q1 q2 =>
        cases q2
        cases r with
        | cons r1 r2 =>
          cases r2
          rename_i v u
          have hr := Dq.rd I d _ _ (Dq_up sb _ _ q1) r1
          have fin : ∀ h' t tk, (∀ b o, s.heap.get? b = some o → h'.get? b = some o) → EP X pins σ Q (.str d.shown t) { s with heap := h', toks := tk } := fun h' t tk hk =>
            ⟨.str _, H, I.kept hk, ⟨t, rfl⟩, k _ H B (Gr.refl sb) (.str _)⟩
          cases q1 with
          | non =>
            cases r1
            exact PySem.P.repr_of_none (fin s.heap _ _ fun _ _ e => e)
          | bl b =>
            cases r1
            exact PySem.P.repr_of_bool (by
              have := fin s.heap s.toks (s.toks + 1) fun _ _ e => e
              simp only [PyData.shown] at this
              exact this)
          | int i =>
            obtain ⟨t, rfl⟩ := r1
            refine PySem.P.repr_of_int (by simpa [PyData.showable] using h1) ?_
            have := fin s.heap s.toks (s.toks + 1) fun _ _ e => e
            simp only [PyData.shown] at this
            exact this
          | str x =>
            obtain ⟨t, rfl⟩ := r1
            refine PySem.P.repr_of_str ?_ (by simpa [PyData.shown] using h4)
            have := fin s.heap s.toks (s.toks + 1) fun _ _ e => e
            simp only [PyData.shown] at this
            exact this
          | lst g1 g2 =>
            cases r1
            exact repr_rdn hr h1 hg (by omega) h4 fun h' t tk hk => fin h' t tk hk
          | dct g1 g2 =>
            cases r1
            exact repr_rdn hr h1 hg (by omega) h4 fun h' t tk hk => fin h' t tk hk
          | tup g1 g2 =>
            cases r1
            exact repr_rdn hr h1 hg (by omega) h4 fun h' t tk hk => fin h' t tk hk
    · cases hf
  · cases hf

/-! ### lists made by operators -/
def fCat : D → D → Option (List D)
  | .list xs, .list ys => if xs.length + ys.length ≤ sizeLine then some (xs ++ ys) else none
  | _, _ => none
def fRep : D → D → Option (List D)
  | .list xs, .int j => if -(2 ^ 63) ≤ j ∧ j < 2 ^ 63 ∧ xs.length * j.toNat ≤ sizeLine then some (List.replicate j.toNat xs).flatten else none
  | _, _ => none
theorem o_cat : OpR X (binaryOp .Add) (O2L X.K fCat) := by
  intro pins s σ H x y v u Q I rx ry ⟨B, d, e, z, sb, hx, hy, hf, k⟩
  unfold fCat at hf
  split at hf
  · split at hf
    · rename_i hl
      cases hf
      cases hx with
      | lst h1 h2 =>
        cases hy with
        | lst g1 g2 =>
          exact op_cat pins s σ H _ _ v u Q I rx ry ⟨_, _, _, _, rfl, rfl, sb _ _ h1, sb _ _ g1, by rw [DqAll.len h2, DqAll.len g2]; exact hl,
            fun p hp => k p _ _ B (Gr.lay sb hp) hp (sb.free hp) upd_same (DqAll.app h2 g2)⟩
    · cases hf
  · cases hf
theorem rep_rel {K : PySem.W.Frag} {B : Hp} {xs : List V} {ds : List D} (h : DqAll K B xs ds) : ∀ n : Nat, DqAll K B (List.replicate n xs).flatten (List.replicate n ds).flatten
  | 0 => .nil
  | n + 1 => by
    rw [List.replicate_succ, List.replicate_succ, List.flatten_cons, List.flatten_cons]
    exact DqAll.app h (rep_rel h n)
theorem o_rep : OpR X (binaryOp .Mult) (O2L X.K fRep) := by
  intro pins s σ H x y v u Q I rx ry ⟨B, d, e, z, sb, hx, hy, hf, k⟩
  unfold fRep at hf
  split at hf
  · split at hf
    · rename_i hl
      cases hf; cases hy
      cases hx with
      | lst h1 h2 =>
        exact op_rep pins s σ H _ _ v u Q I rx ry ⟨_, _, _, rfl, rfl, sb _ _ h1, hl.1, hl.2.1, by rw [DqAll.len h2]; exact hl.2.2,
          fun p hp => k p _ _ B (Gr.lay sb hp) hp (sb.free hp) upd_same (rep_rel h2 _)⟩
    · cases hf
  · cases hf
end
section
variable {π : Type} {Z : PotK π} {S : Sta} {N : List Str} {sc : Scope} {e a b : Expr} {es : List Expr} {pos : Pos} {α β : SE π} {φ : SB π} {ω : SL π}
def lBin (f : D → D → Option (List D)) (α β : SE π) : SL π := fun σ p => (α σ p).bind fun x => (β σ x.2).bind fun y => (f x.1 y.1).map fun z => (z, y.2)
theorem fl_op {op : Operator} {r : R2} {f : D → D → Option (List D)} (ho : ∀ X, Fam S N sc X → OpR X (binaryOp op) r) (hv : Val2L S.K r f) (ha : FE S N sc Z a α) (hb : FE S N sc Z b β) : FL S N sc Z (.BinOp a op b pos) (lBin f α β) := by
  obtain ⟨ta, a1, a2⟩ := ha.ex
  obtain ⟨tb, b1, b2⟩ := hb.ex
  refine ⟨_, fun X hX => pe_op (ho X hX) (a1 X hX) (b1 X hX), fun F B vs H σ p ds p' Q rp e k => ?_⟩
  obtain ⟨⟨x, p1⟩, e1, e⟩ := bnd e
  obtain ⟨⟨y, p2⟩, e2, e⟩ := bnd e
  obtain ⟨z, e3, e4⟩ := mpd e
  cases e4
  refine a2 F B vs H σ p x p1 _ rp e1 fun v H1 B1 s1 r1 d1 => ?_
  refine b2 F B1 vs H1 σ p1 y p2 _ r1 e2 fun u H2 B2 s2 r2 d2 => ?_
  exact hv B2 H2 v u x y _ Q r2.sub (Dq_up s2 x v d1) d2 e3 fun c ys H3 B3 gr hc hb h1 h2 => k c H3 B3 ((s1.trans s2).trans gr.b) (newL_of r2 gr hc hb h1 h2)
theorem fe_ix (ha : FE S N sc Z a α) (hb : FE S N sc Z b β) (hs : PlainIx b := by intro _ _; rfl) : FE S N sc Z (.Subscript a b pos) (xBin fIx α β) := by
  obtain ⟨ta, a1, a2⟩ := ha.ex
  obtain ⟨tb, b1, b2⟩ := hb.ex
  refine ⟨tOp (O2 S.K fIx) ta tb, fun X hX => ?_, sem_bin v_O2 a2 b2⟩
  have h1 := a1 X hX
  have h2 := b1 X hX
  obtain ⟨_, s0, H0, env, outer, stack, ex, fn, pn, hs', hx⟩ := hX
  subst hx
  exact pe_ix i_ix h1 h2 hs
end
end FL

namespace FL
open PySem PySem.Spec PyProof.Rows L2

/-! ### comprehensions as expressions -/
theorem fam_blk {S : Sta} {N : List Str} {sc : Scope} {X : Cx} (hX : Fam S N sc X) (s : Shared) (H : Hp) (scope : Scope) (C : Addr) (cl : List (Str × Addr)) (fp : List Addr) : Fam S N (relS scope sc) (X.blk s H scope (compEnvC scope cl C X.env) fp) := by
  have e := relabel_fam hX scope
  obtain ⟨nd, s0, H0, env, outer, stack, ex, fn, pn, hs, eX⟩ := hX
  subst eX
  exact ⟨nd, s, H, _, _, _, _, _, _, e, rfl⟩
structure FTs {π : Type} (S : Sta) (N : List Str) (sc : Scope) (Z : PotK π) (es : List Expr) (φ : SB π) : Prop where
  ex : ∃ tt, (∀ X, Fam S N sc X → PTs X es tt) ∧ SemT S.K Z tt φ
section
variable {π : Type} {Z : PotK π} {S : Sta} {N : List Str} {sc : Scope} {e a b tg elt it : Expr} {es ifs : List Expr} {pos spos : Pos} {α β : SE π} {φ : SB π} {ω : SL π} {τ : D → Sg → Option Sg} {scope : Scope} {own : List (Str × Nat)}
def xYes : SB π := fun _ p => some (true, p)
theorem fts_nil : FTs S N sc Z [] (xYes (π := π)) := ⟨_, fun _ _ => pts_nil, fun F B vs H σ p c p' Q r e k => by
  cases e
  exact k H B (Same.refl B) r⟩
theorem fts_one (h : FT S N sc Z e φ) : FTs S N sc Z [e] φ := by
  obtain ⟨t, h1, h2⟩ := h.ex
  exact ⟨t, fun X hX => pts_one (h1 X hX), h2⟩
theorem blk_fam {X : Cx} (hX : Fam S N sc X) (h : blkC N sc scope own = true) : BlkOk X.N X.env.scope scope own := by
  obtain ⟨_, s0, H0, env, outer, stack, ex, fn, pn, hs, eX⟩ := hX
  subst eX
  exact blkOk_by (by show blkC N env.scope scope own = true; rw [hs]; exact h)
theorem calm_fam {X : Cx} (hX : Fam S N sc X) : X.calm = true := by
  obtain ⟨_, s0, H0, env, outer, stack, ex, fn, pn, hs, eX⟩ := hX
  subst eX; rfl
theorem N_fam {X : Cx} (hX : Fam S N sc X) : X.N = N := by
  obtain ⟨_, s0, H0, env, outer, stack, ex, fn, pn, hs, eX⟩ := hX
  subst eX; rfl
theorem A_fam {X : Cx} (hX : Fam S N sc X) : X.A = S.A := by
  obtain ⟨_, s0, H0, env, outer, stack, ex, fn, pn, hs, eX⟩ := hX
  subst eX; rfl
theorem K_fam {X : Cx} (hX : Fam S N sc X) : X.K = S.K := by
  obtain ⟨_, s0, H0, env, outer, stack, ex, fn, pn, hs, eX⟩ := hX
  subst eX; rfl
theorem fl_lc (own : List (Str × Nat)) (hi : FI S N sc Z tg it ω) (ok : blkC N sc scope own = true := by decide +kernel) (hg : FGc S N sc scope (own.map (·.2)) tg τ) (ht : FTs S N (relS scope sc) Z ifs φ) (he : FE S N (relS scope sc) Z elt α)
    (hs : ∀ (X : Cx) x, foldedSetIterable it X.env x = pure x := by intro _ _; rfl) : FL S N sc Z (.ListComp elt [⟨tg, it, ifs, 0⟩] scope pos) (lComp (own.map (·.2)) ω τ φ α) := by
  obtain ⟨wi, i1, i2⟩ := hi.ex
  obtain ⟨g, g1, g2⟩ := hg.ex
  obtain ⟨tt, t1, t2⟩ := ht.ex
  obtain ⟨te, e1, e2⟩ := he.ex
  exact ⟨_, fun X hX => pe_lc (calm_fam hX) (by rw [N_fam hX]; exact hX.1) (i1 X hX) (blk_fam hX ok) (fun s H C cl fp => g1 X hX s H C cl fp) (fun s H C cl fp => t1 _ (fam_blk hX s H scope C cl fp)) (fun s H C cl fp => e1 _ (fam_blk hX s H scope C cl fp)) (hs X),
    sem_lc i2 g2 t2 e2⟩
/-- y = [..] on one line -/
theorem fs_setLcL {y : Str} {py : Pos} (i : Nat) (own : List (Str × Nat)) (hy : N[i]? = some y := by rfl) (hyl : sc.names.lookup y = some .local := by rfl)
    (hi : FI S N sc Z tg it ω) (ok : blkC N sc scope own = true := by decide +kernel) (hg : FGc S N sc scope (own.map (·.2)) tg τ) (ht : FTs S N (relS scope sc) Z ifs φ) (he : FE S N (relS scope sc) Z elt α)
    (hk : sc.kind = .function := by rfl) (hl : (py.line == pos.line) = true := by rfl) (hn : (scope.names.any fun (n, k) => n == y && (k == .local || k == .cell)) = false := by decide +kernel)
    (hs : ∀ (X : Cx) x, foldedSetIterable it X.env x = pure x := by intro _ _; rfl) : FS S N sc Z (.Assign [.Name y py] (.ListComp elt [⟨tg, it, ifs, 0⟩] scope pos) spos) (sSetL i (lComp (own.map (·.2)) ω τ φ α)) := by
  obtain ⟨wi, i1, i2⟩ := hi.ex
  obtain ⟨g, g1, g2⟩ := hg.ex
  obtain ⟨tt, t1, t2⟩ := ht.ex
  obtain ⟨te, e1, e2⟩ := he.ex
  refine ⟨tAsg (tLc wi g tt te (own.map (·.2))) (gName i), fun X hX => ?_, sem_setL i (sem_lc i2 g2 t2 e2)⟩
  have q1 := i1 X hX.1
  have q2 := blk_fam hX.1 ok
  have q3 := fun s H C cl fp => g1 X hX.1 s H C cl fp
  have q4 := fun s H C cl fp => t1 _ (fam_blk hX.1 s H scope C cl fp)
  have q5 := fun s H C cl fp => e1 _ (fam_blk hX.1 s H scope C cl fp)
  obtain ⟨⟨nd, s0, H0, env, outer, stack, ex, fn, pn, hs', eX⟩, hf⟩ := hX
  subst eX
  exact ps_setLc rfl nd hy (by show env.scope.names.lookup y = _; rw [hs']; exact hyl) (sw_true (by show env.scope.kind = _; rw [hs']; exact hk) (by show env.scope.names.lookup y = _; rw [hs']; exact hyl) hl hn) q1 q2 q3 q4 q5 (hs _)
theorem semL_E {K : PySem.W.Frag} {te : TE} (h : SemL K Z te ω) : SemE K Z te (xLst ω) := by
  intro F B vs H σ p d p' Q r e k
  obtain ⟨⟨ds, p1⟩, e1, e2⟩ := mpd e
  cases e2
  refine h F B vs H σ p ds p1 Q r e1 fun a H' B' s n => ?_
  obtain ⟨B1, s1, r1, d1⟩ := n.known
  exact k _ H' B1 (s.trans s1) r1 d1
theorem fs_setLc {y : Str} {py : Pos} (i : Nat) (own : List (Str × Nat)) (hy : N[i]? = some y := by rfl) (hyl : sc.names.lookup y = some .local := by rfl)
    (hi : FI S N sc Z tg it ω) (ok : blkC N sc scope own = true := by decide +kernel) (hg : FGc S N sc scope (own.map (·.2)) tg τ) (ht : FTs S N (relS scope sc) Z ifs φ) (he : FE S N (relS scope sc) Z elt α)
    (hk : sc.kind = .function := by rfl) (hl : (py.line == pos.line) = true := by rfl) (hn : (scope.names.any fun (n, k) => n == y && (k == .local || k == .cell)) = false := by decide +kernel)
    (hs : ∀ (X : Cx) x, foldedSetIterable it X.env x = pure x := by intro _ _; rfl) : FS S N sc Z (.Assign [.Name y py] (.ListComp elt [⟨tg, it, ifs, 0⟩] scope pos) spos) (sSet i (xLst (lComp (own.map (·.2)) ω τ φ α))) := by
  obtain ⟨wi, i1, i2⟩ := hi.ex
  obtain ⟨g, g1, g2⟩ := hg.ex
  obtain ⟨tt, t1, t2⟩ := ht.ex
  obtain ⟨te, e1, e2⟩ := he.ex
  refine ⟨tAsg (tLc wi g tt te (own.map (·.2))) (gName i), fun X hX => ?_, sem_set i (semL_E (sem_lc i2 g2 t2 e2))⟩
  have q1 := i1 X hX.1
  have q2 := blk_fam hX.1 ok
  have q3 := fun s H C cl fp => g1 X hX.1 s H C cl fp
  have q4 := fun s H C cl fp => t1 _ (fam_blk hX.1 s H scope C cl fp)
  have q5 := fun s H C cl fp => e1 _ (fam_blk hX.1 s H scope C cl fp)
  obtain ⟨⟨nd, s0, H0, env, outer, stack, ex, fn, pn, hs', eX⟩, hf⟩ := hX
  subst eX
  exact ps_setLc rfl nd hy (by show env.scope.names.lookup y = _; rw [hs']; exact hyl) (sw_true (by show env.scope.kind = _; rw [hs']; exact hk) (by show env.scope.names.lookup y = _; rw [hs']; exact hyl) hl hn) q1 q2 q3 q4 q5 (hs _)

/-! ### calls of defs -/
/-- what a def without a pot promises -/
def spP (K : PySem.W.Frag) (n : Nat) (f : List D → Option D) : Sp := fun vs H Q _ => ∃ B ds z, Same B H ∧ DqAll K B vs ds ∧ ds.length = n ∧ f ds = some z ∧ ∀ v H' B', Gr B H B' H' → Dq K B' v z → Q v H'
/-- a def that is handed the pot first -/
def spZ {π : Type} (K : PySem.W.Frag) (Z : PotK π) (n : Nat) (f : List D → π → Option (D × π)) : Sp := fun vs H Q _ => ∃ pa ga B ws ds p z p', vs = V.ref pa :: ws ∧ Same B H ∧ Z.ok pa ga H p ∧ (∀ a ∈ Z.fp pa ga, B a = none) ∧ DqAll K B ws ds ∧ ds.length + 1 = n ∧ f ds p = some (z, p') ∧
  ∀ v H' B', GrZ Z pa ga B H B' H' p' → Dq K B' v z → Q v H'
def lenIs (n : Nat) (f : List D → Option D) : List D → Option D := fun ds => if ds.length = n then f ds else none
variable {k n : Nat} {fa : Addr} {fd : FuncData} {ps ks : List Str} {x : Str} {q1 : Pos} {f : List D → Option D} {fz : List D → π → Option (D × π)}
theorem ok_fam {X : Cx} {k : Nat} {fa : Addr} {fd : FuncData} {ps : List Str} {sp : Sp} (hX : Fam S N sc X) (F : FnOk S.prog S.w S.K S.mg S.base CX0 k fa fd ps sp) : FnOk X.prog X.w X.K X.mg X.base CX0 k fa fd ps sp := by
  obtain ⟨_, s0, H0, env, outer, stack, ex, fn, pn, hs, eX⟩ := hX
  subst eX; exact F
theorem sem_fun {K : PySem.W.Frag} {ta : TA} {E : XK} (h : SemA K Z ta ω) : SemE K Z (tCall (spP K n f) [] E ta) (xCall (lenIs n f) ω) := by
  intro F B vs H σ p d p' Q r e k
  obtain ⟨⟨ds, p1⟩, e1, e⟩ := bnd e
  obtain ⟨z, e2, e3⟩ := mpd e
  cases e3
  have e2 : (if ds.length = n then f ds else none) = some d := e2
  split at e2
  · rename_i hl
    refine h F B vs H σ p ds p1 _ r e1 fun xs H1 B1 s1 r1 d1 => ?_
    show spP K n f (xs ++ []) H1 Q E
    rw [List.append_nil]
    exact ⟨B1, ds, _, r1.sub, d1, hl, e2, fun v H' B' gr dv => k v H' B' (s1.trans gr.b) (r1.grow gr) dv⟩
  · cases e2
theorem fe_fun (F : FnOk S.prog S.w S.K S.mg S.base CX0 k fa fd ps (spP S.K n f)) (hr : Room k S.A) (hg : Gb sc x) (hm : S.mg x = some (.ref fa)) (hk : PySem.W.keepIn S.K (.ref fa) = true) (hb : Binds S.K fd ps []) (ha : FA S N sc Z (e :: es) ω)
    (hdb : (x == ("__debug__" : Str)) = false := by decide) (he : ∀ X : Cx, starEach (e :: es) X.env = (false, eval e X.env) :: starEach es X.env := by intro _; rfl) (hpl : ∀ X : Cx, (backTo pos (starEach es X.env)).any (·.1) = false := by intro _; rfl) :
    FE S N sc Z (.Call (.Name x q1) (e :: es) [] pos) (xCall (lenIs n f) ω) := by
  obtain ⟨t, a1, a2⟩ := ha.ex
  refine ⟨_, fun X hX => pe_call (ok_fam hX F) (by rw [A_fam hX]; exact hr) (gl_of hX hg) (by rw [mg_of hX]; exact hm) (by rw [K_fam hX]; exact hk) (by rw [K_fam hX]; exact hb) .nil pass0 (a1 X hX) hdb (he X) (hpl X), sem_fun (E := E0) a2⟩
/-- by keywords alone, in another order -/
def permD (ix : List Nat) (ds : List D) : List D := ix.map fun i => ds.getD i .none
def permV (ix : List Nat) (ds : List V) : List V := ix.map fun i => ds.getD i .non
def permU (ix : List Nat) (ds : List Value) : List Value := ix.map fun i => ds.getD i .none
structure FK {π : Type} (S : Sta) (N : List Str) (sc : Scope) (Z : PotK π) (kws : List Keyword) (φ : SL π) : Prop where
  ex : ∃ ta, (∀ X, Fam S N sc X → PK X kws ta) ∧ SemA S.K Z ta φ
variable {kws : List Keyword} {nm : Option Str} {kpos : Pos}
theorem fk_nil : FK S N sc Z [] (aNil (π := π)) := ⟨_, fun _ _ => pk_nil, fun F B vs H σ p ds p' Q r e k => by
  cases e
  exact k [] H B (Same.refl B) r .nil⟩
theorem fk_cons (ha : FE S N sc Z e α) (hr : FK S N sc Z kws ω) : FK S N sc Z (⟨nm, e, kpos⟩ :: kws) (aCons α ω) := by
  obtain ⟨t, a1, a2⟩ := ha.ex
  obtain ⟨u, b1, b2⟩ := hr.ex
  refine ⟨_, fun X hX => pk_cons (a1 X hX) (b1 X hX), fun F B vs H σ p ds p' Q r q k => ?_⟩
  obtain ⟨⟨x, p1⟩, e1, q⟩ := bnd q
  obtain ⟨⟨y, p2⟩, e2, e3⟩ := mpd q
  cases e3
  refine a2 F B vs H σ p x p1 _ r e1 fun v H1 B1 s1 r1 d1 => ?_
  exact b2 F B1 vs H1 σ p1 y p2 _ r1 e2 fun xs H2 B2 s2 r2 d2 => k _ H2 B2 (s1.trans s2) r2 (.cons (Dq_up s2 x v d1) d2)
theorem vals_perm {vs : List V} {us : List Value} (h : Vals vs us) : ∀ ix : List Nat, Vals (permV ix vs) (permU ix us)
  | [] => .nil
  | i :: r => by
    refine .cons (show L2.RelV (vs.getD i .non) (us.getD i .none) from ?_) (vals_perm h r)
    cases e : vs[i]? with
    | none =>
      have e2 := h.none_of e
      rw [List.getD_eq_getElem?_getD, List.getD_eq_getElem?_getD, e, e2]
      exact (rfl : L2.RelV .non .none)
    | some v =>
      obtain ⟨u, e2, ru⟩ := h.get e
      rw [List.getD_eq_getElem?_getD, List.getD_eq_getElem?_getD, e, e2]
      exact ru
theorem dq_perm {K : PySem.W.Frag} {B : Hp} {vs : List V} {ds : List D} (h : DqAll K B vs ds) : ∀ ix : List Nat, DqAll K B (permV ix vs) (permD ix ds)
  | [] => .nil
  | i :: r => by
    refine .cons (show Dq K B (vs.getD i .non) (ds.getD i .none) from ?_) (dq_perm h r)
    cases e : vs[i]? with
    | none =>
      have e2 : ds[i]? = none := by
        rw [List.getElem?_eq_none_iff] at e ⊢
        rw [← DqAll.len h]; exact e
      rw [List.getD_eq_getElem?_getD, List.getD_eq_getElem?_getD, e, e2]
      exact .non
    | some v =>
      obtain ⟨d, e2, hd⟩ := DqAll.has' h e
      rw [List.getD_eq_getElem?_getD, List.getD_eq_getElem?_getD, e, e2]
      exact hd
/-- how the keywords come to the parameters -/
def gU (ix : List Nat) (m : Nat) (us ws : List Value) : List Value := match us with
  | [] => if ws.length = m then permU ix ws else []
  | _ => []
def gVs (ix : List Nat) (m : Nat) (vs zs : List V) : List V := match vs with
  | [] => if zs.length = m then permV ix zs else []
  | _ => []
theorem kb_mk {K : PySem.W.Frag} {ix : List Nat} (h0 : ps.length ≠ 0) (h : ∀ ws : List Value, ws.length = ks.length → bindArgs fd ⟨[], ks.zip ws⟩ = pure (ps.zip (permU ix ws))) : KBinds K fd ps ks (gU ix ks.length) (gVs ix ks.length) where
  to := fun s us ws _ hl => by
    cases us with
    | cons _ _ => exact absurd hl.symm h0
    | nil =>
      have hl : (if ws.length = ks.length then permU ix ws else []).length = ps.length := hl
      show BindsTo s fd ⟨[], ks.zip ws⟩ (ps.zip (if ws.length = ks.length then permU ix ws else []))
      split at hl
      · rename_i q
        rw [if_pos q]
        exact .of_eq (h ws q)
      · exact absurd hl.symm h0
  rel := fun {vs us zs ws} r1 r2 => by
    cases r1 with
    | cons _ _ => exact .nil
    | nil =>
      show Vals (if zs.length = ks.length then permV ix zs else []) (if ws.length = ks.length then permU ix ws else [])
      rw [r2.length]
      split
      · exact vals_perm r2 ix
      · exact .nil
theorem pe_callK0 {X : Cx} {CX : CXT} {sp : Sp} {E : XK} {tk : TA} {g : List Value → List Value → List Value} {gV : List V → List V → List V} {p : Pos} (F : FnOk X.prog X.w X.K X.mg X.base CX k fa fd ps sp) (hr : Room k X.A) (hg : Gl X x) (hm : X.mg x = some (.ref fa)) (hk : PySem.W.keepIn X.K (.ref fa) = true) (hb : KBinds X.K fd ps ks g gV) (hx : Passes CX X E)
    (hkw : PK X kws tk) (hall : (backToKw pos (keywordEach kws X.env)).all (·.1.isSome) = true) (hks : (backToKw pos (keywordEach kws X.env)).filterMap (·.1) = ks)
    (hpl : ((backTo pos (starEach [] X.env)).any (·.1) || (backToKw pos (keywordEach kws X.env)).any (·.1.isNone)) = false) (hdb : (x == ("__debug__" : Str)) = false := by decide) :
    PE X (.Call (.Name x p) [] kws pos) (tCallK sp gV E tNil tk) := by
  refine ⟨fun pins s σ H Q I h => wpAny_Call_Name_kw (ld_glob I hg hm ?_ hdb)⟩
  refine PySem.W.callWith_KW0 (h₀ := X.base) I.ok.mod.kin hk hall (thn (hkw.run pos pins s σ H _ I h) fun ws s2 ⟨zs, H2, I2, rz, q2⟩ => ⟨I2.kIn, ?_⟩) hpl
  rw [hks]
  exact run_fnk F hr hb hx I2 .nil rz q2
def kwF (n : Nat) (ix : List Nat) (m : Nat) (f : List D → Option D) : List D → Option D := fun ds => if ds.length = m then lenIs n f (permD ix ds) else none
theorem sem_funK {K : PySem.W.Frag} {ta : TA} {E : XK} {ix : List Nat} {m : Nat} (h : SemA K Z ta ω) : SemE K Z (tCallK (spP K n f) (gVs ix m) E tNil ta) (xCall (kwF n ix m f) ω) := by
  intro F B vs H σ p d p' Q r e k
  obtain ⟨⟨ds, p1⟩, e1, e⟩ := bnd e
  obtain ⟨z, e2, e3⟩ := mpd e
  cases e3
  have e2 : (if ds.length = m then (if (permD ix ds).length = n then f (permD ix ds) else none) else none) = some d := e2
  split at e2
  · rename_i hm
    split at e2
    · rename_i hl
      refine h F B vs H σ p ds p1 _ r e1 fun xs H1 B1 s1 r1 d1 => ?_
      show spP K n f (if xs.length = m then permV ix xs else []) H1 Q E
      rw [if_pos (by rw [DqAll.len d1]; exact hm)]
      exact ⟨B1, _, _, r1.sub, dq_perm d1 ix, hl, e2, fun v H' B' gr dv => k v H' B' (s1.trans gr.b) (r1.grow gr) dv⟩
    · cases e2
  · cases e2
theorem fe_funK {ix : List Nat} {m : Nat} (F : FnOk S.prog S.w S.K S.mg S.base CX0 k fa fd ps (spP S.K n f)) (hr : Room k S.A) (hg : Gb sc x) (hm : S.mg x = some (.ref fa)) (hk : PySem.W.keepIn S.K (.ref fa) = true) (hb : KBinds S.K fd ps ks (gU ix m) (gVs ix m)) (ha : FK S N sc Z kws ω)
    (hall : ∀ X : Cx, (backToKw pos (keywordEach kws X.env)).all (·.1.isSome) = true := by intro _; rfl) (hks : ∀ X : Cx, (backToKw pos (keywordEach kws X.env)).filterMap (·.1) = ks := by intro _; rfl)
    (hpl : ∀ X : Cx, ((backTo pos (starEach [] X.env)).any (·.1) || (backToKw pos (keywordEach kws X.env)).any (·.1.isNone)) = false := by intro _; rfl) (hdb : (x == ("__debug__" : Str)) = false := by decide) :
    FE S N sc Z (.Call (.Name x q1) [] kws pos) (xCall (kwF n ix m f) ω) := by
  obtain ⟨t, a1, a2⟩ := ha.ex
  refine ⟨_, fun X hX => pe_callK0 (ok_fam hX F) (by rw [A_fam hX]; exact hr) (gl_of hX hg) (by rw [mg_of hX]; exact hm) (by rw [K_fam hX]; exact hk) (by rw [K_fam hX]; exact hb) pass0 (a1 X hX) (hall X) (hks X) (hpl X) hdb, sem_funK (E := E0) a2⟩
/-- a call that hands on the pot -/
def xFunZ (n : Nat) (i : Nat) (f : List D → π → Option (D × π)) (ω : SL π) : SE π := fun σ p => match σ[i]? with
  | some .pot => (ω σ p).bind fun x => if x.1.length + 1 = n then f x.1 x.2 else none
  | _ => none
theorem sem_funZ {K : PySem.W.Frag} {ta : TA} {E : XK} {i : Nat} (h : SemA K Z ta ω) : SemE K Z (tCall (spZ K Z n fz) [] E (tCons (tVar i) ta)) (xFunZ n i fz ω) := by
  intro F B vs H σ p d p' Q r e k
  unfold xFunZ at e
  split at e
  · rename_i q
    obtain ⟨⟨ds, p1⟩, e1, e⟩ := bnd e
    have e : (if ds.length + 1 = n then fz ds p1 else none) = some (d, p') := e
    split at e
    · rename_i hl
      refine ⟨_, r.pot i q, ?_⟩
      refine h F B vs H σ p ds p1 _ r e1 fun xs H1 B1 s1 r1 d1 => ?_
      show spZ K Z n fz ((V.ref F.pa :: xs) ++ []) H1 Q E
      rw [List.append_nil]
      exact ⟨F.pa, F.g, B1, xs, ds, p1, d, p', rfl, r1.sub, r1.pok, fun a ha => r1.noB a (r1.potN a ha), d1, hl, e, fun v H' B' gr dv => k v H' B' (s1.trans gr.b) (r1.growZ gr) dv⟩
    · cases e
  · cases e
theorem fe_funZ {y : Str} {q2 : Pos} (i : Nat) (F : FnOk S.prog S.w S.K S.mg S.base CX0 k fa fd ps (spZ S.K Z n fz)) (hr : Room k S.A) (hg : Gb sc x) (hm : S.mg x = some (.ref fa)) (hk : PySem.W.keepIn S.K (.ref fa) = true) (hb : Binds S.K fd ps []) (ha : FA S N sc Z es ω)
    (hN : N[i]? = some y := by rfl) (hv : Vis sc y := by first | exact Or.inl rfl | exact Or.inr (Or.inl rfl) | exact Or.inr (Or.inr rfl)) (hd : (y == ("__debug__" : Str)) = false := by decide) (hcd : (y == ("__classdict__" : Str)) = false := by decide)
    (hdb : (x == ("__debug__" : Str)) = false := by decide) (he : ∀ X : Cx, starEach (.Name y q2 :: es) X.env = (false, eval (.Name y q2) X.env) :: starEach es X.env := by intro _; rfl) (hpl : ∀ X : Cx, (backTo pos (starEach es X.env)).any (·.1) = false := by intro _; rfl) :
    FE S N sc Z (.Call (.Name x q1) (.Name y q2 :: es) [] pos) (xFunZ n i fz ω) := by
  obtain ⟨t, a1, a2⟩ := ha.ex
  refine ⟨_, fun X hX => ?_, sem_funZ (E := E0) (i := i) a2⟩
  have hp : PE X (.Name y q2) (tVar i) := var_at hX hN hv hd hcd
  exact pe_call (ok_fam hX F) (by rw [A_fam hX]; exact hr) (gl_of hX hg) (by rw [mg_of hX]; exact hm) (by rw [K_fam hX]; exact hk) (by rw [K_fam hX]; exact hb) .nil pass0 (pa_cons hp (a1 X hX) (he X)) hdb (he X) (hpl X)
end

/-! ### a def's promise, from its body's reading -/
def outD {π : Type} : Option (Out π) → Option (D × π)
  | some (.rt d p) => some (d, p)
  | some (.nx _ p) => some (.none, p)
  | _ => none
/-- the value of a def of n parameters and m names -/
def runP (m : Nat) (ψ : SS Unit) (ds : List D) : Option D := (outD (ψ (ds.map .val ++ List.replicate (m - ds.length) .un) ())).map (·.1)
def runZ {π : Type} (m : Nat) (ψ : SS π) (ds : List D) (p : π) : Option (D × π) := outD (ψ (.pot :: ds.map .val ++ List.replicate (m - (ds.length + 1)) .un) p)
theorem start_rep {π : Type} {K : PySem.W.Frag} {Z : PotK π} {F : Fx} {B H : Hp} {p : π} {N : List Str} {vs : List V} {ds : List D} (h : DqAll K B vs ds) (hs : Same B H) (h0 : F.H0 = H) (hp : Z.ok F.pa F.g H p) (hN : ∀ a ∈ Z.fp F.pa F.g, F.N a)
    (hb : ∀ a, F.N a → B a = none) (hh : ∀ a, F.N a → H a ≠ none) : Rep K Z F B (L2.start N vs) H (ds.map .val ++ List.replicate (N.length - ds.length) .un) p where
  sub := hs
  old := fun a o _ e => by rw [h0] at e; exact e
  pok := hp
  potN := hN
  noB := hb
  noH := hh
  len := by
    have := DqAll.len h
    unfold L2.start
    simp only [List.length_append, List.length_map, List.length_replicate]
    omega
  val := fun i d e => by
    have hl := DqAll.len h
    by_cases hi : i < ds.length
    · rw [List.getElem?_append_left (by simpa using hi), List.getElem?_map] at e
      obtain ⟨d', e1, e2⟩ := mpd e
      cases e2
      obtain ⟨v, g1, g2⟩ := DqAll.has h e1
      refine ⟨v, ?_, g2⟩
      unfold L2.start
      rw [List.getElem?_append_left (by simpa [hl] using hi), List.getElem?_map, g1]; rfl
    · rw [List.getElem?_append_right (by simpa using hi), List.getElem?_replicate] at e
      split at e <;> cases e
  own := fun i es e => by
    exfalso
    by_cases hi : i < ds.length
    · rw [List.getElem?_append_left (by simpa using hi), List.getElem?_map] at e
      obtain ⟨d', e1, e2⟩ := mpd e
      cases e2
    · rw [List.getElem?_append_right (by simpa using hi), List.getElem?_replicate] at e
      split at e <;> cases e
  pot := fun i e => by
    exfalso
    by_cases hi : i < ds.length
    · rw [List.getElem?_append_left (by simpa using hi), List.getElem?_map] at e
      obtain ⟨d', e1, e2⟩ := mpd e
      cases e2
    · rw [List.getElem?_append_right (by simpa using hi), List.getElem?_replicate] at e
      split at e <;> cases e
  apart := fun i j a xs ys e1 e2 q1 q2 => by
    exfalso
    by_cases hi : i < ds.length
    · rw [List.getElem?_append_left (by simpa using hi), List.getElem?_map] at q1
      obtain ⟨d', e1, e2⟩ := mpd q1
      cases e2
    · rw [List.getElem?_append_right (by simpa using hi), List.getElem?_replicate] at q1
      split at q1 <;> cases q1
theorem start_repZ {π : Type} {K : PySem.W.Frag} {Z : PotK π} {F : Fx} {B H : Hp} {p : π} {N : List Str} {vs : List V} {ds : List D} (h : DqAll K B vs ds) (hs : Same B H) (h0 : F.H0 = H) (hp : Z.ok F.pa F.g H p) (hN : ∀ a ∈ Z.fp F.pa F.g, F.N a)
    (hb : ∀ a, F.N a → B a = none) (hh : ∀ a, F.N a → H a ≠ none) : Rep K Z F B (L2.start N (V.ref F.pa :: vs)) H (Sl.pot :: (ds.map .val ++ List.replicate (N.length - (ds.length + 1)) .un)) p where
  sub := hs
  old := fun a o _ e => by rw [h0] at e; exact e
  pok := hp
  potN := hN
  noB := hb
  noH := hh
  len := by
    have := DqAll.len h
    unfold L2.start
    simp only [List.length_append, List.length_map, List.length_replicate, List.length_cons]
    omega
  val := fun i d e => by
    have hl := DqAll.len h
    cases i with
    | zero => cases e
    | succ i =>
      rw [List.getElem?_cons_succ] at e
      by_cases hi : i < ds.length
      · rw [List.getElem?_append_left (by simpa using hi), List.getElem?_map] at e
        obtain ⟨d', e1, e2⟩ := mpd e
        cases e2
        obtain ⟨v, g1, g2⟩ := DqAll.has h e1
        refine ⟨v, ?_, g2⟩
        unfold L2.start
        rw [List.getElem?_append_left (by simpa [hl] using hi), List.getElem?_map, List.getElem?_cons_succ, g1]; rfl
      · rw [List.getElem?_append_right (by simpa using hi), List.getElem?_replicate] at e
        split at e <;> cases e
  own := fun i es e => by
    exfalso
    cases i with
    | zero => cases e
    | succ i =>
      rw [List.getElem?_cons_succ] at e
      by_cases hi : i < ds.length
      · rw [List.getElem?_append_left (by simpa using hi), List.getElem?_map] at e
        obtain ⟨d', e1, e2⟩ := mpd e
        cases e2
      · rw [List.getElem?_append_right (by simpa using hi), List.getElem?_replicate] at e
        split at e <;> cases e
  pot := fun i e => by
    cases i with
    | zero => rfl
    | succ i =>
      exfalso
      rw [List.getElem?_cons_succ] at e
      by_cases hi : i < ds.length
      · rw [List.getElem?_append_left (by simpa using hi), List.getElem?_map] at e
        obtain ⟨d', e1, e2⟩ := mpd e
        cases e2
      · rw [List.getElem?_append_right (by simpa using hi), List.getElem?_replicate] at e
        split at e <;> cases e
  apart := fun i j a xs ys e1 e2 q1 q2 => by
    exfalso
    cases i with
    | zero => cases q1
    | succ i =>
      rw [List.getElem?_cons_succ] at q1
      by_cases hi : i < ds.length
      · rw [List.getElem?_append_left (by simpa using hi), List.getElem?_map] at q1
        obtain ⟨d', e1, e2⟩ := mpd q1
        cases e2
      · rw [List.getElem?_append_right (by simpa using hi), List.getElem?_replicate] at q1
        split at q1 <;> cases q1
theorem body_P {K : PySem.W.Frag} {N : List Str} {ts : TS} {ψ : SS Unit} {n : Nat} {vs : List V} {H : Hp} {Q : VK} {E : XK} (h : SemS K noPot ts ψ) (hs : spP K n (runP N.length ψ) vs H Q E) : ts { nx := fun _ H' => Q .non H', rt := Q } (L2.start N vs) H := by
  obtain ⟨B, ds, z, sb, hd, hl, hz, k⟩ := hs
  obtain ⟨⟨z', u⟩, e1, e2⟩ := mpd hz
  subst e2
  have R : Rep K noPot ⟨0, 0, fun a => H a ≠ none ∧ B a = none, H⟩ B (L2.start N vs) H (ds.map .val ++ List.replicate (N.length - ds.length) .un) () :=
    start_rep hd sb rfl trivial (fun a ha => by cases ha) (fun a ha => ha.2) (fun a ha => ha.1)
  have gr : ∀ {B' H' : Hp} {vs' : L2.St} {σ' : Sg}, Same B B' → Rep K noPot ⟨0, 0, fun a => H a ≠ none ∧ B a = none, H⟩ B' vs' H' σ' () → Gr B H B' H' := fun {B' H' vs' σ'} s' r' => ⟨s', fun a o e => r'.old a o (by intro w; cases w) e, r'.sub, fun a ha => by
    by_cases q : B a = none
    · right
      cases q2 : H a with
      | none => rfl
      | some o => exact absurd (r'.noB a ⟨by rw [q2]; simp, q⟩) ha
    · exact .inl q⟩
  cases c : ψ (ds.map .val ++ List.replicate (N.length - ds.length) .un) () with
  | none => rw [c] at e1; cases e1
  | some o =>
    rw [c] at e1
    refine h _ B (L2.start N vs) H _ () o _ R c ?_
    cases o with
    | nx σ1 p1 =>
      cases e1
      exact fun vs' H' B' s' r' => k _ H' B' (gr s' r') .non
    | rt d p1 =>
      cases e1
      exact fun v vs' H' B' σ' s' r' dv => k v H' B' (gr s' r') dv
    | bk _ _ => cases e1
    | ct _ _ => cases e1
theorem body_Z {π : Type} {Z : PotK π} {K : PySem.W.Frag} {N : List Str} {ts : TS} {ψ : SS π} {n : Nat} {vs : List V} {H : Hp} {Q : VK} {E : XK} (h : SemS K Z ts ψ) (hs : spZ K Z n (runZ N.length ψ) vs H Q E) : ts { nx := fun _ H' => Q .non H', rt := Q } (L2.start N vs) H := by
  obtain ⟨pa, ga, B, ws, ds, p, z, p', rfl, sb, hok, hB, hd, hl, hz, k⟩ := hs
  have R : Rep K Z ⟨pa, ga, fun a => a ∈ Z.fp pa ga ∨ (H a ≠ none ∧ B a = none), H⟩ B (L2.start N (V.ref pa :: ws)) H (Sl.pot :: (ds.map .val ++ List.replicate (N.length - (ds.length + 1)) .un)) p :=
    start_repZ (F := ⟨pa, ga, fun a => a ∈ Z.fp pa ga ∨ (H a ≠ none ∧ B a = none), H⟩) hd sb rfl hok (fun a ha => .inl ha) (fun a ha => ha.elim (hB a) (·.2)) (fun a ha => ha.elim (Z.trk pa ga H p hok a) (·.1))
  have gr : ∀ {B' H' : Hp} {vs' : L2.St} {σ' : Sg} {p1 : π}, Same B B' → Rep K Z ⟨pa, ga, fun a => a ∈ Z.fp pa ga ∨ (H a ≠ none ∧ B a = none), H⟩ B' vs' H' σ' p1 → GrZ Z pa ga B H B' H' p1 := fun {B' H' vs' σ' p1} s' r' => ⟨s', fun a o n e => r'.old a o n e, r'.sub, fun a ha => by
    by_cases q : B a = none
    · right
      cases q2 : H a with
      | none => rfl
      | some o => exact absurd (r'.noB a (.inr ⟨by rw [q2]; simp, q⟩)) ha
    · exact .inl q, r'.pok⟩
  have hz : outD (ψ (Sl.pot :: (ds.map .val ++ List.replicate (N.length - (ds.length + 1)) .un)) p) = some (z, p') := hz
  cases c : ψ (Sl.pot :: (ds.map .val ++ List.replicate (N.length - (ds.length + 1)) .un)) p with
  | none => rw [c] at hz; cases hz
  | some o =>
    rw [c] at hz
    refine h _ B _ H _ p o _ R c ?_
    cases o with
    | nx σ1 p1 =>
      cases hz
      exact fun vs' H' B' s' r' => k _ H' B' (gr s' r') .non
    | rt d p1 =>
      cases hz
      exact fun v vs' H' B' σ' s' r' dv => k v H' B' (gr s' r') dv
    | bk _ _ => cases hz
    | ct _ _ => cases hz
end FL

namespace FL
open PySem PySem.Spec PyProof.Rows L2

/-- the context of a def's body -/
abbrev cx (P : Program) (w : World) (K : PySem.W.Frag) (mg : Str → Option Value) (base : Heap) (N : List Str) (qual : Str) (scope : Scope) (f : Addr) (cd : Value) (A : Around) (outer : List Env) (s : Shared) (H : Hp) (E : XK) : Cx :=
  (cxOf CX0 P w K mg base N qual scope f cd A outer s H E).nox
section
variable {P : Program} {w : World} {K : PySem.W.Frag} {mg : Str → Option Value} {base : Heap} {N ps : List Str} {qual x : Str} {st : Stmt} {f : Addr} {fd : FuncData}
theorem fam_self {scope : Scope} {cd : Value} {A : Around} {outer : List Env} {s : Shared} {H : Hp} {E : XK} (nd : N.Nodup) : Fam1 ⟨P, w, K, mg, base, A.deeper (envOfC qual scope s.heap.objs.size f cd)⟩ N scope (cx P w K mg base N qual scope f cd A outer s H E) :=
  ⟨⟨nd, _, _, _, _, _, _, _, _, rfl, rfl⟩, fun _ => rfl⟩
/-- a def without a pot -/
theorem ok_P {k : Nat} {ψ : SS Unit} (F : Fun K x qual st f fd) (S : FnScope N ps (defScope st)) (hb : ∀ A : Around, Room k A → FSs ⟨P, w, K, mg, base, A⟩ N (defScope st) noPot (defBody st) ψ) :
    FnOk P w K mg base CX0 (k + 1) f fd ps (spP K ps.length (runP N.length ψ)) := by
  refine F.ok S (fun vs H Q E ⟨B, ds, z, h1, h2, h3, _⟩ => by rw [DqAll.len h2]; exact h3) fun cd A outer s H vs Q E hr hs => ?_
  obtain ⟨t, h1, h2⟩ := (hb _ hr).ex
  exact ⟨t, h1 _ (fam_self S.nd), body_P h2 hs⟩
theorem ok_Z {π : Type} {Z : PotK π} {k : Nat} {ψ : SS π} (F : Fun K x qual st f fd) (S : FnScope N ps (defScope st)) (hb : ∀ A : Around, Room k A → FSs ⟨P, w, K, mg, base, A⟩ N (defScope st) Z (defBody st) ψ) :
    FnOk P w K mg base CX0 (k + 1) f fd ps (spZ K Z ps.length (runZ N.length ψ)) := by
  refine F.ok S (fun vs H Q E ⟨pa, ga, B, ws, ds, p, z, p', h0, h1, h2, h3, h4, h5, _⟩ => by rw [h0, List.length_cons, DqAll.len h4]; exact h5) fun cd A outer s H vs Q E hr hs => ?_
  obtain ⟨t, h1, h2⟩ := (hb _ hr).ex
  exact ⟨t, h1 _ (fam_self S.nd), body_Z h2 hs⟩
theorem ok_P' {k m n : Nat} {ψ : SS Unit} {g : List D → Option D} (F : Fun K x qual st f fd) (S : FnScope N ps (defScope st)) (hm : N.length = m) (hn : ps.length = n) (hg : g = runP m ψ) (hb : ∀ A : Around, Room k A → FSs ⟨P, w, K, mg, base, A⟩ N (defScope st) noPot (defBody st) ψ) :
    FnOk P w K mg base CX0 (k + 1) f fd ps (spP K n g) := by
  subst hm hn hg
  exact ok_P F S hb
theorem ok_Z' {π : Type} {Z : PotK π} {k m n : Nat} {ψ : SS π} {g : List D → π → Option (D × π)} (F : Fun K x qual st f fd) (S : FnScope N ps (defScope st)) (hm : N.length = m) (hn : ps.length = n) (hg : g = runZ m ψ) (hb : ∀ A : Around, Room k A → FSs ⟨P, w, K, mg, base, A⟩ N (defScope st) Z (defBody st) ψ) :
    FnOk P w K mg base CX0 (k + 1) f fd ps (spZ K Z n g) := by
  subst hm hn hg
  exact ok_Z F S hb
/-- keywords -/
theorem kb_of {ks : List Str} {ix : List Nat} (F : Fun K x qual st f fd) (h0 : ps.length ≠ 0)
    (h : ∀ (kV doc pm : Value) (an : Option Addr) (cd ct : Value) (ws : List Value), ws.length = ks.length → bindArgs (PySem.W.fnOf x qual (defArgs st) (defBody st) (defScope st) .none kV doc pm an cd ct) ⟨[], ks.zip ws⟩ = pure (ps.zip (permU ix ws))) :
    KBinds K fd ps ks (gU ix ks.length) (gVs ix ks.length) := by
  obtain ⟨oc, od, kV, doc, pm, an, cd, ct, osl, rfl, lk, hcd⟩ := F.ex
  exact kb_mk h0 (h kV doc pm an cd ct)

/-! ### the law itself: run by the caller alone (so no display is under way) -/
theorem run_at {k : Nat} {A : Around} {outer : List Env} {s : Shared} {H : Hp} {args : Args} {us : List Value} {vs : List V} {Q : VK} {E : XK} (F : Fun K x qual st f fd) (S : FnScope N ps (defScope st)) (hl : vs.length = ps.length) (hr : Room (k + 1) A)
    (e0 : Env0 P w K mg base A outer s H) (hbd : BindsTo s fd args (ps.zip us)) (r : Vals vs us)
    (hb : ∀ cd : Value, Room k (A.deeper (envOfC qual (defScope st) s.heap.objs.size f cd)) → ∃ t, PSs (cx P w K mg base N qual (defScope st) f cd A outer s H E) (defBody st) t ∧ t { nx := fun _ H' => Q .non H', rt := Q } (L2.start N vs) H) :
    codeAny (model P w) A (.call (.ref f) args) (CR CX0 outer P w H s Q E) s := by
  obtain ⟨oc, od, kV, doc, pm, an, cd, ct, osl, rfl, lk, hcd⟩ := F.ex
  have hK : K.In s.heap := e0.mod.kin.keeps fun b o e => (e0.bs b o e).1
  have hlim : s.heap.NoLimit := e0.mod.nolimit.keeps fun b o e => (e0.bs b o e).1
  refine codeAny_call_function hr.depth (hK _ _ lk) rfl S.co S.gen rfl (PySem.W.codeRec_of hK hcd) (hbd _ _ _ _ ?_)
  have kinds : ∀ y ∈ ps.zip us, (defScope st).names.lookup y.1 = some .local ∨ ((defScope st).names.lookup y.1 = some .cell ∧ ((cellsFrom (s.heap.objs.size + 1) (defScope st).names []).lookup y.1).isSome = true) := by
    intro y hy
    have hp : y.1 ∈ ps := by
      obtain ⟨y1, y2⟩ := y
      exact (List.of_mem_zip hy).1
    rcases S.par y.1 hp with q | q
    · left; exact q
    · right; exact ⟨q, PySem.W.cellsFrom_some _ _ _ (.inl q)⟩
  refine wpAny_newFunctionEnv_cells S.kind kinds fun env he s1 xx => ?_
  subst he
  refine ⟨hlim.keeps xx.toInCall.keep, codeAny_func ?_⟩
  obtain ⟨t, ht, hq⟩ := hb cd (hr.deeper _)
  have I : L2.Inv (cxOf CX0 P w K mg base N qual (defScope st) f cd A outer s H E) [] (L2.start N vs) H s1 := inv_start S hr.hd e0 hl r xx
  refine wpAny_mono (ht.nox.run [] s1 (L2.start N vs) H _ I hq) (fun fl s' hs => ?_) fun e s' hs => hs
  cases fl with
  | ret u =>
    obtain ⟨v, σ', H', J, rv, q⟩ := hs
    exact ⟨v, H', J.os, J.bare, J.base, J.hok, rv, q⟩
  | next =>
    obtain ⟨σ', H', J, q⟩ := hs
    exact ⟨V.non, H', J.os, J.bare, J.base, J.hok, (rfl : L2.RelV V.non Value.none), q⟩
  | brk =>
    obtain ⟨_, _, _, q⟩ := hs
    exact q.elim
  | cont =>
    obtain ⟨_, _, _, q⟩ := hs
    exact q.elim
theorem guards_caller (env : Env) : (callerA.deeper env).guards = some [] := rfl
/-- a law's promise over the heap behind the top -/
theorem law_at {k : Nat} {mb : Str → Option Value} {a : Addr} {y : Str} {s₁ : Shared} {vs : List Value} {ns : List Int} (KX : K.In s₁.heap) (hns : s₁.heap.Ns mainGlobals mg) (hbn : s₁.heap.Ns builtinsNs mb) (hbb : ∀ x : Str, x ≠ "__name__" → mb x = bootBuiltins x) (hlim : s₁.heap.NoLimit)
    (hg : s₁.gens = #[]) (ha : s₁.heap.get? a = some { cls := .type "list", data := .seq vs.toArray }) (hi : IntsAre vs ns) (hl : ns.length ≤ sizeLine) (hr : Room (k + 1) callerA) (F : Fun K x qual st f fd) (S : FnScope N [y] (defScope st)) (hbind : ∀ (s : Shared) (u : Value), BindsTo s fd ⟨[u], []⟩ [(y, u)])
    (hb : ∀ (base : Heap) (cd : Value) (s : Shared) (H : Hp), K.In base → base.Ns mainGlobals mg → Only H → SqL K H a (ns.map V.int) → Room k (callerA.deeper (envOfC qual (defScope st) s.heap.objs.size f cd)) →
      ∃ t, PSs (cx P w K mg base N qual (defScope st) f cd callerA [] s H E0) (defBody st) t ∧ t { nx := fun _ _ => False, rt := fun v _ => v = .bl true } (L2.start N [.ref a]) H) :
    codeAny (model P w) callerA (.call (.ref f) ⟨[.ref a], []⟩) (fun r s' => r = .ok (.ret (.bool true)) ∧ OldK s₁.heap s'.heap ∧ s'.os = s₁.os ∧ AllBare s'.gens) s₁ := by
  have rv := vals_ints hi
  have lenV := hi.length
  have core : ∀ H : Hp, Only H → SqL K H a (ns.map V.int) → HOk P w H s₁.heap → (∀ b, H b ≠ none → b = a) → (H a ≠ none → K.lookup a = none) →
      codeAny (model P w) callerA (.call (.ref f) ⟨[.ref a], []⟩) (fun r s' => r = .ok (.ret (.bool true)) ∧ OldK s₁.heap s'.heap ∧ s'.os = s₁.os ∧ AllBare s'.gens) s₁ := by
    intro H hO hS hok hA hKa
    have noDict : ∀ {b : Addr} {o : Obj} {es : Array DictEntry} {ep : Nat}, s₁.heap.get? b = some o → o.data = .dict es ep → H b = none := by
      intro b o es ep e d
      cases q : H b with
      | none => rfl
      | some u =>
        exfalso
        obtain rfl : b = a := hA b (by rw [q]; simp)
        rw [ha] at e
        cases e
        cases (show Data.seq vs.toArray _ = Data.dict es ep from d)
    have ns2 : ∀ {b : Addr} {m : Str → Option Value}, s₁.heap.Ns b m → (hidT s₁.heap H).Ns b m := by
      rintro b m ⟨o, es, ep, e, d, r⟩
      exact ⟨o, es, ep, hidT_get e (noDict e d), d, r⟩
    have hKb : K.In (hidT s₁.heap H) := by
      intro b o e
      refine hidT_get (KX b o e) ?_
      cases q : H b with
      | none => rfl
      | some u =>
        exfalso
        obtain rfl : b = a := hA b (by rw [q]; simp)
        rw [hKa (by rw [q]; simp)] at e
        cases e
    have hM : Mod K mg (hidT s₁.heap H) := by
      obtain ⟨mc, h1, h2⟩ := hlim
      exact ⟨hKb, ns2 hns, ⟨mb, ns2 hbn, hbb⟩, ⟨mc, ns2 h1, h2⟩⟩
    have e0 : Env0 P w K mg (hidT s₁.heap H) callerA [] s₁ H := by
      refine ⟨rfl, hM, fun b o e => of_hidT e, Nat.le_of_eq (hidT_size _ _), trivial, fun b hb => ?_, hok, .of_eq hg⟩
      cases (show b ∈ ([] : List Addr) from hb)
    have main := run_at (Q := fun v _ => v = .bl true) (E := E0) (args := ⟨[.ref a], []⟩) (us := [.ref a]) (vs := [.ref a]) F S rfl hr e0 (hbind s₁ (.ref a)) (.cons rfl .nil) fun cd hr' => by
      obtain ⟨t, h1, h2⟩ := hb (hidT s₁.heap H) cd s₁ H hKb (ns2 hns) hO hS hr'
      refine ⟨t, h1, ?_⟩
      have e : ({ nx := fun _ H' => (fun v _ => v = V.bl true) V.non H', rt := fun v _ => v = .bl true } : Ends) = { nx := fun _ _ => False, rt := fun v _ => v = .bl true } := by
        have : (fun (_ : L2.St) (_ : Hp) => V.non = V.bl true) = fun _ _ => False := by
          funext _ _
          exact propext ⟨fun z => (by cases z), fun z => False.elim z⟩
        show ({ nx := fun _ _ => V.non = V.bl true, rt := fun v _ => v = .bl true } : Ends) = _
        rw [this]
      rw [e]; exact h2
    refine codeAny_mono main fun r s' h => ?_
    cases r with
    | error e => exact h.elim
    | ok fl =>
      cases fl with
      | next => exact h.elim
      | brk => exact h.elim
      | cont => exact h.elim
      | ret u =>
        obtain ⟨v, H', os, bare, un, hok', r', q⟩ := h
        have q' : v = .bl true := q
        subst q'
        obtain rfl : u = Value.bool true := r'
        refine ⟨rfl, OldK.of_keep fun b o e => ?_, os, bare⟩
        cases q : H b with
        | none => exact un.keep b o e q (by intro z; cases (show b ∈ ([] : List Addr) from z)) (by simp)
        | some u =>
          rcases hO b with z | ⟨ob, xs, z⟩
          · rw [q] at z; cases z
          · have z2 := un.frzs b ob _ z
            obtain ⟨e1, _⟩ := hok b _ z
            obtain ⟨e2, _⟩ := hok' b _ z2
            rw [e] at e1; cases e1
            exact e2
  cases hk : K.lookup a with
  | some o =>
    have e := KX a o hk
    rw [ha] at e
    cases e
    refine core (fun _ => none) (fun _ => .inl rfl) (.inr ⟨_, vs.toArray, _, hk, rfl, rfl, rfl, by rw [List.size_toArray, lenV]; exact hl, by simpa using rv⟩) ?_ ?_ ?_
    · intro b u z
      cases (show (none : Option HO) = some u from z)
    · intro b z; exact absurd rfl z
    · intro z; exact absurd rfl z
  | none =>
    refine core (fun b => if b = a then some (.frz { cls := .type "list", data := .seq vs.toArray } (.lst (ns.map V.int))) else none) ?_ (.inl (.inr ⟨_, if_pos rfl⟩)) ?_ ?_ fun _ => hk
    · intro b
      by_cases hb : b = a
      · exact .inr ⟨_, _, if_pos hb⟩
      · exact .inl (if_neg hb)
    · intro b u z
      by_cases hb : b = a
      · have z' := (if_pos hb).symm.trans z
        cases z'
        subst hb
        exact ⟨ha, by rw [List.length_map]; exact hl, vs, _, rv, ha⟩
      · have z' := (if_neg hb).symm.trans z
        cases z'
    · intro b z
      by_cases hb : b = a
      · exact hb
      · exact absurd (if_neg hb) z
end
open PySem.W in
/-- the end of a row -/
theorem walk_G {l : PySem.W.OpenLaw} {n k : Nat} {q : Program} {loose : List Str} {XP : (Str → Option Value) → Heap → Prop} {YP : World → Heap → Prop} {d : DefRec} {K : Params → PySem.W.Frag} {y : Str} {N : List Str} {x qual : Str} {st : Stmt}
    (hn : l.most = some n) (hn2 : n ≤ sizeLine) (hdf : d.params.defaults = []) (hr : Room (k + 1) callerA) (hY : ∀ (w : World) (h : Heap), YP w h → (K w.params).In h) (S : FnScope N [y] (defScope st))
    (F : ∀ (w : World) (mg : Str → Option Value) (fa : Addr) (h : Heap), (K w.params).In h → h.Ns mainGlobals mg → mg d.name = some (.ref fa) →
      ∃ fd : FuncData, (∀ (s : Shared) (u : Value), BindsTo s fd ⟨[u], []⟩ [(y, u)]) ∧ Fun (K w.params) x qual st fa fd ∧
        ∀ (base : Heap) (cd : Value) (s : Shared) (H : Hp) (a : Addr) (ns : List Int), (K w.params).In base → base.Ns mainGlobals mg → ns.length ≤ n → (∀ z ∈ ns, Builtin.Int.intBits z ≤ 1048576) → Only H → SqL (K w.params) H a (ns.map V.int) →
          Room k (callerA.deeper (envOfC qual (defScope st) s.heap.objs.size fa cd)) →
          ∃ t, PSs (cx l.prog w (K w.params) mg base N qual (defScope st) fa cd callerA [] s H E0) (defBody st) t ∧ t { nx := fun _ _ => False, rt := fun v _ => v = .bl true } (L2.start N [.ref a]) H) :
    PySem.W.WalkO q loose XP YP l.row.toRowW d [] (fun f vs => PySem.call f vs) := by
  refine Att.attach_callB hn hdf fun w s₀ s₁ mg mb fa o pm cd doc a vs ns G Y ho hd hcd hmg hobj hints hlen hbits hg => ?_
  have KX := hY w _ Y
  obtain ⟨fd, hb, hF, hbody⟩ := F w mg fa _ KX G.T.g hmg
  exact law_at KX G.T.g G.T.b G.T.builtins G.T.nolimit hg hobj hints (Nat.le_trans hlen hn2) hr hF S hb fun base cd s H h1 h2 h3 h4 h5 => hbody base cd s H a ns h1 h2 hlen hbits h3 h4 h5
end FL

namespace FL
open PySem PySem.Spec PyProof.Rows L2
section
variable {π : Type} {Z : PotK π} {S : Sta} {N : List Str} {sc : Scope} {e a b c : Expr} {es : List Expr} {pos q1 : Pos} {α β γ : SE π} {φ : SB π} {ω : SL π}
theorem up2 {f : D → D → Option D} {g : Value → Value → Sem Value} (h : ∀ X : Cx, X.A = S.A → X.calm = true → OpR X g (O2 X.K f)) : ∀ X, Fam S N sc X → OpR X g (O2 S.K f) := fun X hX => by
  have := h X (A_fam hX) (calm_fam hX)
  rw [K_fam hX] at this; exact this
theorem up2L {f : D → D → Option (List D)} {g : Value → Value → Sem Value} (h : ∀ X : Cx, OpR X g (O2L X.K f)) : ∀ X, Fam S N sc X → OpR X g (O2L S.K f) := fun X hX => by
  have := h X
  rw [K_fam hX] at this; exact this
theorem up1 {f : D → Option D} {g : Value → Sem Value} (h : ∀ X : Cx, UnR X g (O1 X.K f)) : ∀ X, Fam S N sc X → UnR X g (O1 S.K f) := fun X hX => by
  have := h X
  rw [K_fam hX] at this; exact this
theorem upN {f : List D → Option D} {g : Value} (h : ∀ X : Cx, X.A = S.A → X.calm = true → CallR X g (ON X.K f)) : ∀ X, Fam S N sc X → CallR X g (ON S.K f) := fun X hX => by
  have := h X (A_fam hX) (calm_fam hX)
  rw [K_fam hX] at this; exact this
theorem upNL {f : List D → Option (List D)} {g : Value} (h : ∀ X : Cx, X.A = S.A → X.calm = true → CallR X g (ONL X.K f)) : ∀ X, Fam S N sc X → CallR X g (ONL S.K f) := fun X hX => by
  have := h X (A_fam hX) (calm_fam hX)
  rw [K_fam hX] at this; exact this
theorem hu65 {k : Nat} {A : Around} (r : Room k A) : A.units + 70 < cLine := by have := r.un; omega

theorem fe_add (ha : FE S N sc Z a α) (hb : FE S N sc Z b β) : FE S N sc Z (.BinOp a .Add b pos) (xBin fAdd α β) := fe_op (up2 fun X _ _ => o_add) v_O2 ha hb
theorem fe_sub (ha : FE S N sc Z a α) (hb : FE S N sc Z b β) : FE S N sc Z (.BinOp a .Sub b pos) (xBin fSub α β) := fe_op (up2 fun X _ _ => o_sub) v_O2 ha hb
theorem fe_mul (ha : FE S N sc Z a α) (hb : FE S N sc Z b β) : FE S N sc Z (.BinOp a .Mult b pos) (xBin fMul α β) := fe_op (up2 fun X _ _ => o_mul) v_O2 ha hb
theorem fe_div (ha : FE S N sc Z a α) (hb : FE S N sc Z b β) : FE S N sc Z (.BinOp a .FloorDiv b pos) (xBin fDiv α β) := fe_op (up2 fun X _ _ => o_div) v_O2 ha hb
theorem fe_mod (ha : FE S N sc Z a α) (hb : FE S N sc Z b β) : FE S N sc Z (.BinOp a .Mod b pos) (xBin fMod α β) := fe_op (up2 fun X _ _ => o_mod) v_O2 ha hb
theorem fe_pow (ha : FE S N sc Z a α) (hb : FE S N sc Z b β) : FE S N sc Z (.BinOp a .Pow b pos) (xBin fPow α β) := fe_op (up2 fun X _ _ => o_pow) v_O2 ha hb
theorem fe_shl (ha : FE S N sc Z a α) (hb : FE S N sc Z b β) : FE S N sc Z (.BinOp a .LShift b pos) (xBin fShl α β) := fe_op (up2 fun X _ _ => o_shl) v_O2 ha hb
theorem fe_shr (ha : FE S N sc Z a α) (hb : FE S N sc Z b β) : FE S N sc Z (.BinOp a .RShift b pos) (xBin fShr α β) := fe_op (up2 fun X _ _ => o_shr) v_O2 ha hb
theorem fe_band (ha : FE S N sc Z a α) (hb : FE S N sc Z b β) : FE S N sc Z (.BinOp a .BitAnd b pos) (xBin fAnd α β) := fe_op (up2 fun X _ _ => o_and) v_O2 ha hb
theorem fe_bor (ha : FE S N sc Z a α) (hb : FE S N sc Z b β) : FE S N sc Z (.BinOp a .BitOr b pos) (xBin fOr α β) := fe_op (up2 fun X _ _ => o_or) v_O2 ha hb
theorem fl_cat (ha : FE S N sc Z a α) (hb : FE S N sc Z b β) : FL S N sc Z (.BinOp a .Add b pos) (lBin fCat α β) := fl_op (up2L fun X => o_cat) v_O2L ha hb
theorem fl_rep (ha : FE S N sc Z a α) (hb : FE S N sc Z b β) : FL S N sc Z (.BinOp a .Mult b pos) (lBin fRep α β) := fl_op (up2L fun X => o_rep) v_O2L ha hb
theorem fe_neg (ha : FE S N sc Z a α) : FE S N sc Z (.UnaryOp .USub a pos) (xUn fNeg α) := fe_un (up1 fun X => u_neg) v_O1 ha
theorem fe_inv (ha : FE S N sc Z a α) : FE S N sc Z (.UnaryOp .Invert a pos) (xUn fInv α) := fe_un (up1 fun X => u_inv) v_O1 ha
theorem fe_eq (hu : S.A.units + 70 < cLine) (ha : FE S N sc Z a α) (hb : FE S N sc Z b β) : FE S N sc Z (.Compare a [.Eq] [b] pos) (xBin fEq α β) := fe_cmp (up2 fun X hA _ => o_eq (by rw [hA]; omega)) v_O2 ha hb (nomark _)
theorem ft_eq (hu : S.A.units + 70 < cLine) (ha : FE S N sc Z a α) (hb : FE S N sc Z b β) : FT S N sc Z (.Compare a [.Eq] [b] pos) (xTest (xBin fEq α β)) := ft_cmp (up2 fun X hA _ => o_eq (by rw [hA]; omega)) v_O2 ha hb (nomark _)
theorem fe_ne (hu : S.A.units + 70 < cLine) (ha : FE S N sc Z a α) (hb : FE S N sc Z b β) : FE S N sc Z (.Compare a [.NotEq] [b] pos) (xBin fNe α β) := fe_cmp (up2 fun X hA _ => o_ne (by rw [hA]; omega)) v_O2 ha hb (nomark _)
theorem ft_ne (hu : S.A.units + 70 < cLine) (ha : FE S N sc Z a α) (hb : FE S N sc Z b β) : FT S N sc Z (.Compare a [.NotEq] [b] pos) (xTest (xBin fNe α β)) := ft_cmp (up2 fun X hA _ => o_ne (by rw [hA]; omega)) v_O2 ha hb (nomark _)
theorem fe_lt (hu : S.A.units + 70 < cLine) (ha : FE S N sc Z a α) (hb : FE S N sc Z b β) : FE S N sc Z (.Compare a [.Lt] [b] pos) (xBin fLt α β) := fe_cmp (up2 fun X hA _ => o_lt (by rw [hA]; omega)) v_O2 ha hb (nomark _)
theorem ft_lt (hu : S.A.units + 70 < cLine) (ha : FE S N sc Z a α) (hb : FE S N sc Z b β) : FT S N sc Z (.Compare a [.Lt] [b] pos) (xTest (xBin fLt α β)) := ft_cmp (up2 fun X hA _ => o_lt (by rw [hA]; omega)) v_O2 ha hb (nomark _)
theorem fe_le (hu : S.A.units + 70 < cLine) (ha : FE S N sc Z a α) (hb : FE S N sc Z b β) : FE S N sc Z (.Compare a [.LtE] [b] pos) (xBin fLe α β) := fe_cmp (up2 fun X hA _ => o_le (by rw [hA]; omega)) v_O2 ha hb (nomark _)
theorem ft_le (hu : S.A.units + 70 < cLine) (ha : FE S N sc Z a α) (hb : FE S N sc Z b β) : FT S N sc Z (.Compare a [.LtE] [b] pos) (xTest (xBin fLe α β)) := ft_cmp (up2 fun X hA _ => o_le (by rw [hA]; omega)) v_O2 ha hb (nomark _)
theorem fe_gt (hu : S.A.units + 70 < cLine) (ha : FE S N sc Z a α) (hb : FE S N sc Z b β) : FE S N sc Z (.Compare a [.Gt] [b] pos) (xBin fGt α β) := fe_cmp (up2 fun X hA _ => o_gt (by rw [hA]; omega)) v_O2 ha hb (nomark _)
theorem ft_gt (hu : S.A.units + 70 < cLine) (ha : FE S N sc Z a α) (hb : FE S N sc Z b β) : FT S N sc Z (.Compare a [.Gt] [b] pos) (xTest (xBin fGt α β)) := ft_cmp (up2 fun X hA _ => o_gt (by rw [hA]; omega)) v_O2 ha hb (nomark _)
theorem fe_ge (hu : S.A.units + 70 < cLine) (ha : FE S N sc Z a α) (hb : FE S N sc Z b β) : FE S N sc Z (.Compare a [.GtE] [b] pos) (xBin fGe α β) := fe_cmp (up2 fun X hA _ => o_ge (by rw [hA]; omega)) v_O2 ha hb (nomark _)
theorem ft_ge (hu : S.A.units + 70 < cLine) (ha : FE S N sc Z a α) (hb : FE S N sc Z b β) : FT S N sc Z (.Compare a [.GtE] [b] pos) (xTest (xBin fGe α β)) := ft_cmp (up2 fun X hA _ => o_ge (by rw [hA]; omega)) v_O2 ha hb (nomark _)
theorem fe_in (hu : S.A.units + 70 < cLine) (ha : FE S N sc Z a α) (hb : FE S N sc Z b β) (hm : behindInMarks .In b = false := by rfl) : FE S N sc Z (.Compare a [.In] [b] pos) (xBin fIn α β) := fe_cmp (up2 fun X hA _ => o_in (by rw [hA]; omega)) v_O2 ha hb hm
theorem ft_in (hu : S.A.units + 70 < cLine) (ha : FE S N sc Z a α) (hb : FE S N sc Z b β) (hm : behindInMarks .In b = false := by rfl) : FT S N sc Z (.Compare a [.In] [b] pos) (xTest (xBin fIn α β)) := ft_cmp (up2 fun X hA _ => o_in (by rw [hA]; omega)) v_O2 ha hb hm
theorem fe_nin (hu : S.A.units + 70 < cLine) (ha : FE S N sc Z a α) (hb : FE S N sc Z b β) (hm : behindInMarks .NotIn b = false := by rfl) : FE S N sc Z (.Compare a [.NotIn] [b] pos) (xBin fNin α β) := fe_cmp (up2 fun X hA _ => o_nin (by rw [hA]; omega)) v_O2 ha hb hm
theorem ft_nin (hu : S.A.units + 70 < cLine) (ha : FE S N sc Z a α) (hb : FE S N sc Z b β) (hm : behindInMarks .NotIn b = false := by rfl) : FT S N sc Z (.Compare a [.NotIn] [b] pos) (xTest (xBin fNin α β)) := ft_cmp (up2 fun X hA _ => o_nin (by rw [hA]; omega)) v_O2 ha hb hm
theorem fe_is (ha : FE S N sc Z a α) (hb : FE S N sc Z b β) : FE S N sc Z (.Compare a [.Is] [b] pos) (xBin fIs α β) := fe_cmp (up2 fun X _ _ => o_is) v_O2 ha hb (nobehind _ (by decide) (by decide))
theorem ft_is (ha : FE S N sc Z a α) (hb : FE S N sc Z b β) : FT S N sc Z (.Compare a [.Is] [b] pos) (xTest (xBin fIs α β)) := ft_cmp (up2 fun X _ _ => o_is) v_O2 ha hb (nobehind _ (by decide) (by decide))
theorem fe_isn (ha : FE S N sc Z a α) (hb : FE S N sc Z b β) : FE S N sc Z (.Compare a [.IsNot] [b] pos) (xBin fIsn α β) := fe_cmp (up2 fun X _ _ => o_isn) v_O2 ha hb (nobehind _ (by decide) (by decide))
theorem ft_isn (ha : FE S N sc Z a α) (hb : FE S N sc Z b β) : FT S N sc Z (.Compare a [.IsNot] [b] pos) (xTest (xBin fIsn α β)) := ft_cmp (up2 fun X _ _ => o_isn) v_O2 ha hb (nobehind _ (by decide) (by decide))
theorem fc_len (hm : S.mg "len" = none) (ha : FA S N sc Z (e :: es) ω) (hg : Gb sc "len" := by rfl)
    (he : ∀ X : Cx, starEach (e :: es) X.env = (false, eval e X.env) :: starEach es X.env := by intro _; rfl) (hpl : ∀ X : Cx, (backTo pos (starEach es X.env)).any (·.1) = false := by intro _; rfl) :
    FE S N sc Z (.Call (.Name "len" q1) (e :: es) [] pos) (xCall fLen ω) := fe_callB (upN fun X hA hc => c_len) v_ON hg hm (by decide +kernel) ha (by decide) (by decide) he hpl
theorem fc_abs (hm : S.mg "abs" = none) (ha : FA S N sc Z (e :: es) ω) (hg : Gb sc "abs" := by rfl)
    (he : ∀ X : Cx, starEach (e :: es) X.env = (false, eval e X.env) :: starEach es X.env := by intro _; rfl) (hpl : ∀ X : Cx, (backTo pos (starEach es X.env)).any (·.1) = false := by intro _; rfl) :
    FE S N sc Z (.Call (.Name "abs" q1) (e :: es) [] pos) (xCall fAbs ω) := fe_callB (upN fun X hA hc => c_abs) v_ON hg hm (by decide +kernel) ha (by decide) (by decide) he hpl
theorem fc_int (hm : S.mg "int" = none) (ha : FA S N sc Z (e :: es) ω) (hg : Gb sc "int" := by rfl)
    (he : ∀ X : Cx, starEach (e :: es) X.env = (false, eval e X.env) :: starEach es X.env := by intro _; rfl) (hpl : ∀ X : Cx, (backTo pos (starEach es X.env)).any (·.1) = false := by intro _; rfl) :
    FE S N sc Z (.Call (.Name "int" q1) (e :: es) [] pos) (xCall fInt ω) := fe_callTy (upN fun X hA hc => c_int) v_ON hg hm (by decide +kernel) ha (by decide) (by decide) he hpl
theorem fc_tuple (hm : S.mg "tuple" = none) (ha : FA S N sc Z (e :: es) ω) (hg : Gb sc "tuple" := by rfl)
    (he : ∀ X : Cx, starEach (e :: es) X.env = (false, eval e X.env) :: starEach es X.env := by intro _; rfl) (hpl : ∀ X : Cx, (backTo pos (starEach es X.env)).any (·.1) = false := by intro _; rfl) :
    FE S N sc Z (.Call (.Name "tuple" q1) (e :: es) [] pos) (xCall fTuple ω) := fe_callTy (upN fun X hA hc => c_tuple) v_ON hg hm (by decide +kernel) ha (by decide) (by decide) he hpl
theorem fc_max (hu : S.A.units + 70 < cLine) (hm : S.mg "max" = none) (ha : FA S N sc Z (e :: es) ω) (hg : Gb sc "max" := by rfl)
    (he : ∀ X : Cx, starEach (e :: es) X.env = (false, eval e X.env) :: starEach es X.env := by intro _; rfl) (hpl : ∀ X : Cx, (backTo pos (starEach es X.env)).any (·.1) = false := by intro _; rfl) :
    FE S N sc Z (.Call (.Name "max" q1) (e :: es) [] pos) (xCall fMax ω) := fe_callB (upN fun X hA hc => c_max hc (by rw [hA]; omega)) v_ON hg hm (by decide +kernel) ha (by decide) (by decide) he hpl
theorem fc_min (hu : S.A.units + 70 < cLine) (hm : S.mg "min" = none) (ha : FA S N sc Z (e :: es) ω) (hg : Gb sc "min" := by rfl)
    (he : ∀ X : Cx, starEach (e :: es) X.env = (false, eval e X.env) :: starEach es X.env := by intro _; rfl) (hpl : ∀ X : Cx, (backTo pos (starEach es X.env)).any (·.1) = false := by intro _; rfl) :
    FE S N sc Z (.Call (.Name "min" q1) (e :: es) [] pos) (xCall fMin ω) := fe_callB (upN fun X hA hc => c_min hc (by rw [hA]; omega)) v_ON hg hm (by decide +kernel) ha (by decide) (by decide) he hpl
theorem fc_sum (hm : S.mg "sum" = none) (ha : FA S N sc Z (e :: es) ω) (hg : Gb sc "sum" := by rfl)
    (he : ∀ X : Cx, starEach (e :: es) X.env = (false, eval e X.env) :: starEach es X.env := by intro _; rfl) (hpl : ∀ X : Cx, (backTo pos (starEach es X.env)).any (·.1) = false := by intro _; rfl) :
    FE S N sc Z (.Call (.Name "sum" q1) (e :: es) [] pos) (xCall fSum ω) := fe_callB (upN fun X hA hc => c_sum hc) v_ON hg hm (by decide +kernel) ha (by decide) (by decide) he hpl
theorem fc_all (hm : S.mg "all" = none) (ha : FA S N sc Z (e :: es) ω) (hg : Gb sc "all" := by rfl)
    (he : ∀ X : Cx, starEach (e :: es) X.env = (false, eval e X.env) :: starEach es X.env := by intro _; rfl) (hpl : ∀ X : Cx, (backTo pos (starEach es X.env)).any (·.1) = false := by intro _; rfl) :
    FE S N sc Z (.Call (.Name "all" q1) (e :: es) [] pos) (xCall fAll ω) := fe_callB (upN fun X hA hc => c_all hc) v_ON hg hm (by decide +kernel) ha (by decide) (by decide) he hpl
theorem fc_any (hm : S.mg "any" = none) (ha : FA S N sc Z (e :: es) ω) (hg : Gb sc "any" := by rfl)
    (he : ∀ X : Cx, starEach (e :: es) X.env = (false, eval e X.env) :: starEach es X.env := by intro _; rfl) (hpl : ∀ X : Cx, (backTo pos (starEach es X.env)).any (·.1) = false := by intro _; rfl) :
    FE S N sc Z (.Call (.Name "any" q1) (e :: es) [] pos) (xCall fAny ω) := fe_callB (upN fun X hA hc => c_any hc) v_ON hg hm (by decide +kernel) ha (by decide) (by decide) he hpl
theorem fc_repr (hG : S.A.guards = some []) (hu : S.A.units + 70 < cLine) (hm : S.mg "repr" = none) (ha : FA S N sc Z (e :: es) ω) (hg : Gb sc "repr" := by rfl)
    (he : ∀ X : Cx, starEach (e :: es) X.env = (false, eval e X.env) :: starEach es X.env := by intro _; rfl) (hpl : ∀ X : Cx, (backTo pos (starEach es X.env)).any (·.1) = false := by intro _; rfl) :
    FE S N sc Z (.Call (.Name "repr" q1) (e :: es) [] pos) (xCall fRepr ω) := fe_callB (upN fun X hA hc => c_repr (by rw [hA]; exact hG) (by rw [hA]; exact hu)) v_ON hg hm (by decide +kernel) ha (by decide) (by decide) he hpl
theorem fl_list (hm : S.mg "list" = none) (ha : FA S N sc Z (e :: es) ω) (hg : Gb sc "list" := by rfl)
    (he : ∀ X : Cx, starEach (e :: es) X.env = (false, eval e X.env) :: starEach es X.env := by intro _; rfl) (hpl : ∀ X : Cx, (backTo pos (starEach es X.env)).any (·.1) = false := by intro _; rfl) :
    FL S N sc Z (.Call (.Name "list" q1) (e :: es) [] pos) (lCall fList ω) := fl_callTy (upNL fun X hA hc => c_list) v_ONL hg hm (by decide +kernel) ha (by decide) (by decide) he hpl
end
end FL

namespace FL
open PySem PySem.Spec PyProof.Rows L2

/-! ### the drawing pot -/
structure PotS where
  great : List Int
  a : Int
  b : Int
def potKV (g : Addr) (p : PotS) : List (Key × V) := [(Sum.inr "great", V.ref g), (Sum.inr "seal", V.int p.a), (Sum.inr "turn", V.int p.b)]
def ZB : PotK PotS where
  fp := fun a g => [a, g]
  ok := fun a g H p => a ≠ g ∧ H a = some (.dK (potKV g p)) ∧ H g = some (.lst (p.great.map .int)) ∧ p.great.length ≤ 63
  loc := fun a g H H' p h ⟨h0, h1, h2, h3⟩ => ⟨h0, by rw [h a (by simp)]; exact h1, by rw [h g (by simp)]; exact h2, h3⟩
  trk := fun a g H p ⟨h0, h1, h2, _⟩ b hb => by
    rcases List.mem_cons.mp hb with e | hb
    · rw [e, h1]; simp
    · rcases List.mem_cons.mp hb with e | hb
      · rw [e, h2]; simp
      · cases hb
/-- a draw below m -/
def drawG (c m : Int) (r : List Int) : List Int := if c ≥ m then r ++ [c / m] else r
def drawB (p : PotS) (m : Int) : Int × PotS :=
  match p.great.getLast? with
  | some c => (c % m, { p with great := drawG c m p.great.dropLast })
  | none =>
    let t := p.b + 1
    let o1 := (p.a * 69621 + t * 40503 + 29) % 4294967279
    let o2 := (o1 * o1 + p.a * 7) % 4294967231
    (o2 / 64 % m, { p with a := (p.a * 48271 + o2) % 4294967291, b := t })
def drawF (ds : List D) (p : PotS) : Option (D × PotS) := match ds with
  | [.int m] => if 0 < m ∧ m < 2 ^ 200 then some (.int (drawB p m).1, (drawB p m).2) else none
  | _ => none
theorem drawB_lt (p : PotS) {m : Int} (h : 0 < m) : 0 ≤ (drawB p m).1 ∧ (drawB p m).1 < m := by
  unfold drawB
  split
  · exact ⟨Int.emod_nonneg _ (by omega), Int.emod_lt_of_pos _ h⟩
  · exact ⟨Int.emod_nonneg _ (by omega), Int.emod_lt_of_pos _ h⟩
theorem lay_ints : ∀ ns : List Int, PyData.canLayAll0 (ns.map PyData.int) = true
  | [] => rfl
  | n :: r => by
    rw [List.map_cons, PyData.canLayAll0, lay_ints r]; rfl
theorem depth_ints : ∀ ns : List Int, PyData.depthAll (ns.map PyData.int) = 0
  | [] => rfl
  | n :: r => by
    rw [List.map_cons, PyData.depthAll, depth_ints r]; rfl
theorem shaped_ints (ns : List Int) : SeqAt.shaped (.list (ns.map .int)) = true := by
  unfold SeqAt.shaped
  rw [PyData.canLay0, lay_ints, PyData.depth, depth_ints]; rfl
theorem shaped_intsT (ns : List Int) : SeqAt.shaped (.tuple (ns.map .int)) = true := by
  unfold SeqAt.shaped
  rw [PyData.canLay0, lay_ints, PyData.depth, depth_ints]; rfl
theorem dp_ints {K : PySem.W.Frag} {H : Hp} : ∀ ns : List Int, DpAll K H (ns.map .int) (ns.map .int)
  | [] => .nil
  | n :: r => .cons (.int n) (dp_ints r)
/-- what the pot's maker promises -/
def spMk (K : PySem.W.Frag) (Z : PotK PotS) : Sp := fun vs H Q _ => ∃ (a : Addr) (ns : List Int), vs = [V.ref a] ∧ SqL K H a (ns.map V.int) ∧ ns.length ≤ 63 ∧
  ∀ pa ga H' p, H pa = none → H ga = none → Same H H' → Z.ok pa ga H' p → Q (.ref pa) H'
theorem cut_ints (ns : List Int) (n : Int) : ∃ ms : List Int, cutV (ns.map V.int) none (some n) = ms.map V.int ∧ ms.length ≤ ns.length := by
  unfold cutV
  rw [← List.map_drop, ← List.map_take]
  refine ⟨_, rfl, ?_⟩
  rw [List.length_take, List.length_drop]
  omega
/-- a law behind its pot -/
theorem law_rest {Z : PotK PotS} {K : PySem.W.Frag} {ts : TS} {ψ : SS PotS} {pa ga : Addr} {vs : L2.St} {H : Hp} {p p' : PotS} {m : Nat} (h : SemS K Z ts ψ) (hok : Z.ok pa ga H p) (hl : vs.length = m + 2) (hp : vs[1]? = some (some (.ref pa)))
    (e : ψ (.un :: .pot :: List.replicate m .un) p = some (.rt (.bool true) p')) : ts { nx := fun _ _ => False, rt := fun v _ => v = .bl true } vs H := by
  have no : ∀ (i : Nat) (s : Sl), (Sl.un :: Sl.pot :: List.replicate m Sl.un)[i]? = some s → s = .un ∨ (s = .pot ∧ i = 1) := by
    intro i s hs
    match i, hs with
    | 0, hs => cases hs; exact .inl rfl
    | 1, hs => cases hs; exact .inr ⟨rfl, rfl⟩
    | i + 2, hs =>
      rw [List.getElem?_cons_succ, List.getElem?_cons_succ, List.getElem?_replicate] at hs
      split at hs <;> cases hs
      exact .inl rfl
  refine h ⟨pa, ga, fun a => a ∈ Z.fp pa ga, fun _ => none⟩ (fun _ => none) vs H _ p _ _ ⟨fun a o e => (by cases e), fun a o _ e => (by cases e), hok, fun a h => h, fun a _ => rfl, fun a h => Z.trk pa ga H p hok a h, ?_, fun i d e => ?_, fun i ds e => ?_, fun i e => ?_, fun i j a xs ys _ _ e _ => ?_⟩ e ?_
  · rw [hl]; simp
  · rcases no i _ e with z | ⟨z, _⟩ <;> cases z
  · rcases no i _ e with z | ⟨z, _⟩ <;> cases z
  · rcases no i _ e with z | ⟨_, z⟩
    · cases z
    · subst z; exact hp
  · rcases no i _ e with z | ⟨z, _⟩ <;> cases z
  · intro v vs' H' B' σ' _ _ d
    cases d
    rfl
end FL

namespace FL
open PySem L2

/-! ### what a reading comes to -/
def Ends {π : Type} (ψ : SS π) (σ : Sg) (p : π) (R : Out π → Prop) : Prop := ∃ o, ψ σ p = some o ∧ R o
def EvE {π : Type} {τ : Type} (φ : Sg → π → Option (τ × π)) (σ : Sg) (p : π) (R : τ → π → Prop) : Prop := ∃ d p', φ σ p = some (d, p') ∧ R d p'
section
variable {π : Type} {ψ χ : SS π} {φ : SB π} {α β : SE π} {ω : SL π} {σ : Sg} {p : π} {R : Out π → Prop} {τ : D → Sg → Option Sg}
theorem ev {ρ : Type} {φ : Sg → π → Option (ρ × π)} {R : ρ → π → Prop} {d : ρ} {p' : π} (h : φ σ p = some (d, p')) (k : R d p') : EvE φ σ p R := ⟨d, p', h, k⟩
theorem ends_nil (h : R (.nx σ p)) : Ends sNil σ p R := ⟨_, rfl, h⟩
theorem ends_seq (h : Ends ψ σ p fun o => match o with
    | .nx σ' p' => Ends χ σ' p' R
    | o => R o) : Ends (sSeq ψ χ) σ p R := by
  obtain ⟨o, h1, h2⟩ := h
  unfold Ends sSeq
  rw [h1]
  cases o with
  | nx σ' p' => exact h2
  | rt d p' => exact ⟨_, rfl, h2⟩
  | bk σ' p' => exact ⟨_, rfl, h2⟩
  | ct σ' p' => exact ⟨_, rfl, h2⟩
theorem ends_set {i : Nat} (h : EvE α σ p fun d p' => R (.nx (σ.set i (.val d)) p')) : Ends (sSet i α) σ p R := by
  obtain ⟨d, p', h1, h2⟩ := h
  exact ⟨_, by unfold sSet; rw [h1]; rfl, h2⟩
theorem ends_setL {i : Nat} (h : EvE ω σ p fun d p' => R (.nx (σ.set i (.own d)) p')) : Ends (sSetL i ω) σ p R := by
  obtain ⟨d, p', h1, h2⟩ := h
  exact ⟨_, by unfold sSetL; rw [h1]; rfl, h2⟩
theorem ends_ret (h : EvE α σ p fun d p' => R (.rt d p')) : Ends (sRet α) σ p R := by
  obtain ⟨d, p', h1, h2⟩ := h
  exact ⟨_, by unfold sRet; rw [h1]; rfl, h2⟩
theorem ends_if (h : EvE φ σ p fun b p' => (b = true → Ends ψ σ p' R) ∧ (b = false → Ends χ σ p' R)) : Ends (sIf φ ψ χ) σ p R := by
  obtain ⟨b, p', h1, h2, h3⟩ := h
  cases b with
  | true =>
    obtain ⟨o, g1, g2⟩ := h2 rfl
    exact ⟨o, by unfold sIf; rw [h1]; exact g1, g2⟩
  | false =>
    obtain ⟨o, g1, g2⟩ := h3 rfl
    exact ⟨o, by unfold sIf; rw [h1]; exact g1, g2⟩
theorem ends_if_t {p' : π} (h1 : φ σ p = some (true, p')) (h : Ends ψ σ p' R) : Ends (sIf φ ψ χ) σ p R := ends_if ⟨true, p', h1, fun _ => h, fun z => by cases z⟩
theorem ends_if_f {p' : π} (h1 : φ σ p = some (false, p')) (h : Ends χ σ p' R) : Ends (sIf φ ψ χ) σ p R := ends_if ⟨false, p', h1, fun z => (by cases z), fun _ => h⟩
theorem ends_par {i j : Nat} (h : EvE α σ p fun d p' => EvE β σ p' fun e p2 => R (.nx ((σ.set i (.val d)).set j (.val e)) p2)) : Ends (sPar i j α β) σ p R := by
  obtain ⟨d, p', h1, e, p2, h2, h3⟩ := h
  exact ⟨_, by unfold sPar; rw [h1]; show ((β σ p').map _) = _; rw [h2]; rfl, h3⟩
theorem ends_fz {i : Nat} {ds : List D} (h0 : σ[i]? = some (.own ds)) (h : Ends ψ (σ.set i (.val (.list ds))) p R) : Ends (sFz i ψ) σ p R := by
  obtain ⟨o, h1, h2⟩ := h
  exact ⟨o, by unfold sFz; rw [h0]; exact h1, h2⟩
theorem ends_app {i : Nat} {ds : List D} {d : D} {p' : π} (h1 : α σ p = some (d, p')) (h0 : σ[i]? = some (.own ds)) (hl : ds.length < sizeLine) (h : R (.nx (σ.set i (.own (ds ++ [d]))) p')) : Ends (sApp i α) σ p R :=
  ⟨_, by unfold sApp; rw [h1, h0]; exact if_pos hl, h⟩
theorem ends_ext {i : Nat} {ds es : List D} {p' : π} (h1 : α σ p = some (.list es, p')) (h0 : σ[i]? = some (.own ds)) (hl : ds.length + es.length ≤ sizeLine) (h : R (.nx (σ.set i (.own (ds ++ es))) p')) : Ends (sExt i α) σ p R :=
  ⟨_, by unfold sExt; rw [h1, h0]; exact if_pos hl, h⟩
/-- a loop by an invariant of the turn's number -/
theorem loop_inv (I : Nat → Sg → π → Prop) : ∀ (ds : List D) (k : Nat) (σ : Sg) (p : π), I k σ p →
    (∀ (i : Nat) (d : D) (σ : Sg) (p : π), ds[i]? = some d → I (k + i) σ p → ∃ σ1, τ d σ = some σ1 ∧ Ends ψ σ1 p fun o => ∃ σ2 p2, o = .nx σ2 p2 ∧ I (k + i + 1) σ2 p2) →
    ∃ σ' p', sLoop τ ψ ds σ p = some (.nx σ' p') ∧ I (k + ds.length) σ' p'
  | [], k, σ, p, h, _ => ⟨σ, p, rfl, h⟩
  | d :: r, k, σ, p, h, hs => by
    obtain ⟨σ1, h1, o, h2, σ2, p2, rfl, h3⟩ := hs 0 d σ p rfl h
    have := loop_inv I r (k + 1) σ2 p2 h3 fun i e σ p hi hI => by
      have := hs (i + 1) e σ p (by simpa using hi) (by rw [show k + (i + 1) = k + 1 + i by omega]; exact hI)
      rw [show k + (i + 1) + 1 = k + 1 + i + 1 by omega] at this
      exact this
    obtain ⟨σ', p', g1, g2⟩ := this
    refine ⟨σ', p', ?_, by rw [List.length_cons, show k + (r.length + 1) = k + 1 + r.length by omega]; exact g2⟩
    unfold sLoop
    rw [h1]
    simp only [h2]
    exact g1
theorem ends_for {ds : List D} {p1 : π} (I : Nat → Sg → π → Prop) (h0 : ω σ p = some (ds, p1)) (hI : I 0 σ p1)
    (hs : ∀ (i : Nat) (d : D) (σ : Sg) (p : π), ds[i]? = some d → I i σ p → ∃ σ1, τ d σ = some σ1 ∧ Ends ψ σ1 p fun o => ∃ σ2 p2, o = .nx σ2 p2 ∧ I (i + 1) σ2 p2)
    (hd : ∀ σ p, I ds.length σ p → R (.nx σ p)) : Ends (sFor ω τ ψ) σ p R := by
  obtain ⟨σ', p', h1, h2⟩ := loop_inv (τ := τ) (ψ := ψ) I ds 0 σ p1 hI fun i d σ p hi h => by
    rw [Nat.zero_add] at h ⊢
    exact hs i d σ p hi h
  rw [Nat.zero_add] at h2
  exact ⟨_, by unfold sFor; rw [h0]; exact h1, hd σ' p' h2⟩
/-- a while by an invariant and a measure -/
theorem ends_while (I : Sg → π → Prop) (μ : Sg → π → Nat) : ∀ (n : Nat) (σ : Sg) (p : π), I σ p → μ σ p < n →
    (∀ σ p, I σ p → EvE φ σ p fun b p' => (b = true → Ends ψ σ p' fun o => ∃ σ2 p2, o = .nx σ2 p2 ∧ I σ2 p2 ∧ μ σ2 p2 < μ σ p) ∧ (b = false → R (.nx σ p'))) → Ends (sWhile φ ψ n) σ p R
  | 0, _, _, _, hm, _ => absurd hm (Nat.not_lt_zero _)
  | n + 1, σ, p, h, hm, hs => by
    obtain ⟨b, p', h1, h2, h3⟩ := hs σ p h
    cases b with
    | false => exact ⟨_, by unfold sWhile; rw [h1]; rfl, h3 rfl⟩
    | true =>
      obtain ⟨o, g1, σ2, p2, rfl, g2, g3⟩ := h2 rfl
      obtain ⟨o, q1, q2⟩ := ends_while I μ n σ2 p2 g2 (by omega) hs
      refine ⟨o, ?_, q2⟩
      unfold sWhile
      rw [h1]
      show (match ψ σ p' with
        | some (.nx σ2 p2) => sWhile φ ψ n σ2 p2
        | some (.ct σ2 p2) => sWhile φ ψ n σ2 p2
        | some (.bk σ2 p2) => some (.nx σ2 p2)
        | some (.rt d p2) => some (.rt d p2)
        | none => none) = some o
      rw [g1]
      exact q1

/-- item by item -/
inductive All2 {κ ρ : Type} (G : κ → ρ → Prop) : List κ → List ρ → Prop
  | nil : All2 G [] []
  | cons {x : κ} {y : ρ} {xs : List κ} {ys : List ρ} : G x y → All2 G xs ys → All2 G (x :: xs) (y :: ys)
theorem All2.len {κ ρ : Type} {G : κ → ρ → Prop} : ∀ {xs : List κ} {ys : List ρ}, All2 G xs ys → xs.length = ys.length
  | _, _, .nil => rfl
  | _, _, .cons _ h => by rw [List.length_cons, List.length_cons, h.len]

/-! ### comprehensions -/
theorem lc_map {κ : Type} {own : List Nat} (e : κ → D) (s : κ → Sg) (c : κ → Bool) (h : κ → D) : ∀ (xs : List κ), (∀ x ∈ xs, τ (e x) (wipeS σ own) = some (s x)) → (∀ x ∈ xs, φ (s x) p = some (c x, p)) →
    (∀ x ∈ xs, c x = true → α (s x) p = some (h x, p)) → lcGo own τ φ α (xs.map e) σ p = some ((xs.filter c).map h, p)
  | [], _, _, _ => rfl
  | x :: r, h1, h2, h3 => by
    have ih := lc_map e s c h r (fun y hy => h1 y (List.mem_cons_of_mem _ hy)) (fun y hy => h2 y (List.mem_cons_of_mem _ hy)) fun y hy => h3 y (List.mem_cons_of_mem _ hy)
    rw [List.map_cons]
    unfold lcGo
    rw [h1 x List.mem_cons_self]
    simp only [h2 x List.mem_cons_self, Option.bind_some]
    cases hc : c x with
    | true =>
      rw [if_pos rfl, h3 x List.mem_cons_self hc]
      simp only [Option.bind_some, ih, Option.map_some, List.filter_cons, hc, if_true, List.map_cons]
    | false =>
      rw [if_neg Bool.false_ne_true, ih, List.filter_cons, hc]
      simp only [Bool.false_eq_true, if_false]
/-- all items kept -/
theorem lc_all {κ : Type} {own : List Nat} (e : κ → D) (s : κ → Sg) (h : κ → D) (xs : List κ) (h1 : ∀ x ∈ xs, τ (e x) (wipeS σ own) = some (s x)) (h3 : ∀ x ∈ xs, α (s x) p = some (h x, p)) : lcGo own τ xYes α (xs.map e) σ p = some (xs.map h, p) := by
  have := lc_map (φ := xYes) e s (fun _ => true) h xs h1 (fun _ _ => rfl) fun x hx _ => h3 x hx
  rw [this, List.filter_eq_self.mpr (fun _ _ => rfl)]
/-- the state turns: what is kept is some of the items, each made as told -/
theorem lc_some {κ : Type} {own : List Nat} (e : κ → D) (s : κ → Sg) (h : κ → D) : ∀ (xs : List κ) (p : π), (∀ x ∈ xs, τ (e x) (wipeS σ own) = some (s x)) → (∀ x ∈ xs, ∀ p, ∃ c p1, φ (s x) p = some (c, p1)) →
    (∀ x ∈ xs, ∀ p, α (s x) p = some (h x, p)) → ∃ (ys : List κ) (p' : π), ys.Sublist xs ∧ lcGo own τ φ α (xs.map e) σ p = some (ys.map h, p')
  | [], p, _, _, _ => ⟨[], p, List.nil_sublist _, rfl⟩
  | x :: r, p, h1, h2, h3 => by
    obtain ⟨c, p1, hc⟩ := h2 x List.mem_cons_self p
    obtain ⟨ys, p', hs, ih⟩ := lc_some e s h r p1 (fun y hy => h1 y (List.mem_cons_of_mem _ hy)) (fun y hy => h2 y (List.mem_cons_of_mem _ hy)) fun y hy => h3 y (List.mem_cons_of_mem _ hy)
    cases c with
    | true =>
      refine ⟨x :: ys, p', hs.cons₂ x, ?_⟩
      rw [List.map_cons]
      unfold lcGo
      rw [h1 x List.mem_cons_self]
      simp only [hc, Option.bind_some, if_true, h3 x List.mem_cons_self p1, ih, Option.map_some, List.map_cons]
    | false =>
      refine ⟨ys, p', hs.cons x, ?_⟩
      rw [List.map_cons]
      unfold lcGo
      rw [h1 x List.mem_cons_self]
      simp only [hc, Option.bind_some, Bool.false_eq_true, if_false, ih]
/-- the state turns: each item makes some value of a kind -/
theorem lc_each {κ ρ : Type} {own : List Nat} (e : κ → D) (s : κ → Sg) (h : ρ → D) (G : κ → ρ → Prop) : ∀ (xs : List κ) (p : π), (∀ x ∈ xs, τ (e x) (wipeS σ own) = some (s x)) →
    (∀ x ∈ xs, ∀ p, ∃ y p1, α (s x) p = some (h y, p1) ∧ G x y) → ∃ (ys : List ρ) (p' : π), All2 G xs ys ∧ lcGo own τ xYes α (xs.map e) σ p = some (ys.map h, p')
  | [], p, _, _ => ⟨[], p, .nil, rfl⟩
  | x :: r, p, h1, h3 => by
    obtain ⟨y, p1, hy, gy⟩ := h3 x List.mem_cons_self p
    obtain ⟨ys, p', hs, ih⟩ := lc_each e s h G r p1 (fun y hy => h1 y (List.mem_cons_of_mem _ hy)) fun y hy => h3 y (List.mem_cons_of_mem _ hy)
    refine ⟨y :: ys, p', .cons gy hs, ?_⟩
    rw [List.map_cons]
    unfold lcGo
    rw [h1 x List.mem_cons_self]
    simp only [xYes, Option.bind_some, if_true, hy, ih, Option.map_some, List.map_cons]
theorem comp_ev {own : List Nat} {ds es : List D} {p1 p2 : π} (h0 : ω σ p = some (ds, p1)) (hl : ds.length ≤ sizeLine) (hp : plainAt σ own = true) (h : lcGo own τ φ α ds σ p1 = some (es, p2)) : lComp own ω τ φ α σ p = some (es, p2) := by
  unfold lComp
  rw [h0]
  show (if ds.length ≤ sizeLine ∧ plainAt σ own = true then lcGo own τ φ α ds σ p1 else none) = _
  rw [if_pos ⟨hl, hp⟩, h]
end

/-! ### data -/
abbrev dI (n : Int) : D := .int n
def dT (ns : List Int) : D := .tuple (ns.map .int)
def dTs (l : List (List Int)) : D := .tuple (l.map dT)
theorem intsOf_map : ∀ ns : List Int, intsOf (ns.map .int) = some ns
  | [] => rfl
  | n :: r => by
    rw [List.map_cons]
    unfold intsOf
    rw [intsOf_map r]; rfl
theorem boolsOf_map : ∀ ns : List Bool, boolsOf (ns.map .bool) = some ns
  | [] => rfl
  | n :: r => by
    rw [List.map_cons]
    unfold boolsOf
    rw [boolsOf_map r]; rfl
theorem alikeB_ints (ns : List Int) : alikeB (ns.map .int) = true := by
  unfold alikeB
  rw [depth_ints]
  simp only [Bool.and_eq_true, List.all_eq_true, List.mem_map, decide_eq_true_eq]
  refine ⟨⟨?_, ?_⟩, by decide⟩
  · rintro x ⟨a, _, rfl⟩ y ⟨b, _, rfl⟩
    rfl
  · rintro x ⟨a, _, rfl⟩
    rfl
theorem maxL_ints (n : Int) (ns : List Int) : maxL ((n :: ns).map .int) = some (.int (ns.foldl max n)) := by
  have h := alikeB_ints (n :: ns)
  rw [List.map_cons] at h ⊢
  show (if alikeB (PyData.int n :: List.map PyData.int ns) = true then some (PySem.W.maxD (.int n) (ns.map .int)) else none) = _
  rw [if_pos h, PySem.W.maxD_ints]
theorem minL_ints (n : Int) (ns : List Int) : minL ((n :: ns).map .int) = some (.int (ns.foldl min n)) := by
  have h := alikeB_ints (n :: ns)
  rw [List.map_cons] at h ⊢
  show (if alikeB (PyData.int n :: List.map PyData.int ns) = true then some (PySem.W.minD (.int n) (ns.map .int)) else none) = _
  rw [if_pos h, PySem.W.minD_ints]
theorem eqv_int (a b : Int) : PyData.eqv (.int a) (.int b) = (a == b) := by simp [PyData.eqv]
theorem any_eqv (ns : List Int) (x : Int) : ((ns.map PyData.int).any fun z => PyData.eqv z (.int x)) = ns.contains x := by
  induction ns with
  | nil => rfl
  | cons n r ih =>
    rw [List.map_cons, List.any_cons, ih, eqv_int, List.contains_cons]
    congr 1
    exact Bool.eq_iff_iff.mpr (by rw [beq_iff_eq, beq_iff_eq]; exact ⟨fun h => h.symm, fun h => h.symm⟩)
theorem shaped_int (n : Int) : SeqAt.shaped (.int n) = true := by
  unfold SeqAt.shaped
  rw [PyData.canLay0, PyData.depth]; rfl
theorem in_ints (x : Int) (ns : List Int) : fIn (.int x) (dT ns) = some (.bool (ns.contains x)) := by
  unfold fIn isIn dT items
  rw [Option.bind_some, shaped_int, shaped_intsT, any_eqv]; rfl
theorem eqD_int (a b : Int) : eqD (.int a) (.int b) = some (a == b) := by
  unfold eqD
  simp only [shaped_int, Bool.and_self, if_true, eqv_int]

/-! ### how long a display is -/
mutual
/-- a bound of the text's length -/
def wt : D → Nat
  | .none => 4
  | .bool _ => 5
  | .int _ => 700
  | .str _ => 1000000000
  | .list ds => wts ds + 4
  | .tuple ds => wts ds + 4
  | .dict _ => 1000000000
def wts : List D → Nat
  | [] => 0
  | d :: r => wt d + 2 + wts r
end
end FL

namespace FL
open PySem L2

/-! ### stepping a reading -/
section
variable {π : Type} {σ : Sg} {p p1 p2 p' : π} {α β : SE π} {φ ψ : SB π} {ω : SL π} {d x y z : D} {ds es : List D} {f : D → D → Option D} {g : List D → Option D} {i n m : Nat} {c : Bool}
theorem e_var (h : σ[i]? = some (.val d)) : xVar i σ p = some (d, p) := by unfold xVar; rw [h]
theorem e_c : xC d σ p = some (d, p) := rfl
theorem e_bin (h1 : α σ p = some (x, p1)) (h2 : β σ p1 = some (y, p2)) (h3 : f x y = some z) : xBin f α β σ p = some (z, p2) := by
  unfold xBin
  rw [h1]
  show ((β σ p1).bind _) = _
  rw [h2]
  show ((f x y).map _) = _
  rw [h3]; rfl
theorem e_un {f : D → Option D} (h1 : α σ p = some (x, p1)) (h3 : f x = some z) : xUn f α σ p = some (z, p1) := by
  unfold xUn
  rw [h1]
  show ((f x).map _) = _
  rw [h3]; rfl
theorem e_test (h : α σ p = some (.bool c, p1)) : xTest α σ p = some (c, p1) := by unfold xTest; rw [h]; rfl
theorem e_or_t (h : φ σ p = some (true, p1)) : xOr φ ψ σ p = some (true, p1) := by unfold xOr; rw [h]; rfl
theorem e_or_f (h : φ σ p = some (false, p1)) (h2 : ψ σ p1 = some (c, p2)) : xOr φ ψ σ p = some (c, p2) := by unfold xOr; rw [h]; exact h2
theorem e_and_f (h : φ σ p = some (false, p1)) : xAnd φ ψ σ p = some (false, p1) := by unfold xAnd; rw [h]; rfl
theorem e_and_t (h : φ σ p = some (true, p1)) (h2 : ψ σ p1 = some (c, p2)) : xAnd φ ψ σ p = some (c, p2) := by unfold xAnd; rw [h]; exact h2
theorem e_not (h : φ σ p = some (c, p1)) : xNot φ σ p = some (!c, p1) := by unfold xNot; rw [h]; rfl
theorem e_if_t (h : φ σ p = some (true, p1)) (h2 : α σ p1 = some (x, p2)) : xIf φ α β σ p = some (x, p2) := by unfold xIf; rw [h]; exact h2
theorem e_if_f (h : φ σ p = some (false, p1)) (h2 : β σ p1 = some (x, p2)) : xIf φ α β σ p = some (x, p2) := by unfold xIf; rw [h]; exact h2
theorem a_nil : aNil σ p = some ([], p) := rfl
theorem a_cons (h : α σ p = some (x, p1)) (h2 : ω σ p1 = some (ds, p2)) : aCons α ω σ p = some (x :: ds, p2) := by
  unfold aCons
  rw [h]
  show ((ω σ p1).map _) = _
  rw [h2]; rfl
theorem a_one (h : α σ p = some (x, p1)) : aCons α aNil σ p = some ([x], p1) := a_cons h a_nil
theorem e_tup (h : ω σ p = some (ds, p1)) (hl : ds.length ≤ sizeLine) : xTup ω σ p = some (.tuple ds, p1) := by
  unfold xTup
  rw [h]
  exact if_pos hl
theorem l_disp (h : ω σ p = some (ds, p1)) (hl : ds.length ≤ sizeLine) : lDisp ω σ p = some (ds, p1) := by
  unfold lDisp
  rw [h]
  exact if_pos hl
theorem e_L (h : ω σ p = some (ds, p1)) : xLst ω σ p = some (.list ds, p1) := by unfold xLst; rw [h]; rfl
theorem e_call (h : ω σ p = some (ds, p1)) (h2 : g ds = some z) : xCall g ω σ p = some (z, p1) := by
  unfold xCall
  rw [h]
  show ((g ds).map _) = _
  rw [h2]; rfl
theorem l_call {g : List D → Option (List D)} (h : ω σ p = some (ds, p1)) (h2 : g ds = some es) : lCall g ω σ p = some (es, p1) := by
  unfold lCall
  rw [h]
  show ((g ds).map _) = _
  rw [h2]; rfl
theorem l_bin {f : D → D → Option (List D)} (h1 : α σ p = some (x, p1)) (h2 : β σ p1 = some (y, p2)) (h3 : f x y = some es) : lBin f α β σ p = some (es, p2) := by
  unfold lBin
  rw [h1]
  show ((β σ p1).bind _) = _
  rw [h2]
  show ((f x y).map _) = _
  rw [h3]; rfl
theorem e_Z {f : List D → π → Option (D × π)} (h0 : σ[i]? = some .pot) (h : ω σ p = some (ds, p1)) (hn : ds.length + 1 = n) (h2 : f ds p1 = some (z, p2)) : xFunZ n i f ω σ p = some (z, p2) := by
  unfold xFunZ
  rw [h0]
  show ((ω σ p).bind _) = _
  rw [h]
  show (if ds.length + 1 = n then _ else _) = _
  rw [if_pos hn, h2]
theorem i_of (h : α σ p = some (x, p1)) (h2 : items x = some ds) : iOf α σ p = some (ds, p1) := by
  unfold iOf
  rw [h]
  show ((items x).map _) = _
  rw [h2]; rfl
theorem i_by {f : List D → Option (List D)} (h : ω σ p = some (ds, p1)) (h2 : f ds = some es) : iBy f ω σ p = some (es, p1) := by
  unfold iBy
  rw [h]
  show ((f ds).map _) = _
  rw [h2]; rfl
theorem len_is (hn : ds.length = n) (h : g ds = some z) : lenIs n g ds = some z := by unfold lenIs; rw [if_pos hn, h]
theorem kw_is {ix : List Nat} (hm : ds.length = m) (hp : permD ix ds = es) (hn : es.length = n) (h : g es = some z) : kwF n ix m g ds = some z := by
  unfold kwF
  rw [if_pos hm, hp, len_is hn h]
theorem run_P {ψ : SS Unit} (h : Ends ψ (ds.map .val ++ List.replicate (m - ds.length) .un) () fun o => outD (some o) = some (d, ())) : runP m ψ ds = some d := by
  obtain ⟨o, h1, h2⟩ := h
  unfold runP
  rw [h1, h2]; rfl
theorem run_Z {ψ : SS π} {R : D → π → Prop} (h : Ends ψ (.pot :: ds.map .val ++ List.replicate (m - (ds.length + 1)) .un) p fun o => ∃ d p', outD (some o) = some (d, p') ∧ R d p') : ∃ d p', runZ m ψ ds p = some (d, p') ∧ R d p' := by
  obtain ⟨o, h1, d, p', h2, h3⟩ := h
  exact ⟨d, p', by unfold runZ; rw [h1, h2], h3⟩
/-- the end of a loop's turn -/
theorem ends_mono {ψ : SS π} {R S : Out π → Prop} (h : Ends ψ σ p R) (k : ∀ o, R o → S o) : Ends ψ σ p S := by
  obtain ⟨o, h1, h2⟩ := h
  exact ⟨o, h1, k o h2⟩
end
theorem sml {a b : Nat} (h : Nat.ble a b = true) : a ≤ b := Nat.le_of_ble_eq_true h
theorem set_get {σ : Sg} {i : Nat} {s : Sl} (h : i < σ.length) : (σ.set i s)[i]? = some s := by rw [List.getElem?_set_self h]

/-! ### texts -/
def Rp (d : D) (n k : Nat) : Prop := d.showable = true ∧ d.hasDict = false ∧ d.depth ≤ k ∧ d.shown.length ≤ n
theorem Rp.mono {d : D} {n k n' k' : Nat} (h : Rp d n k) (hn : n ≤ n') (hk : k ≤ k') : Rp d n' k' := ⟨h.1, h.2.1, Nat.le_trans h.2.2.1 hk, Nat.le_trans h.2.2.2 hn⟩
theorem Rp.repr {d : D} {n k : Nat} (h : Rp d n k) (hn : n ≤ sizeLine) (hk : k ≤ 64) : fRepr [d] = some (.str d.shown) := by
  unfold fRepr
  exact if_pos ⟨h.1, Nat.le_trans h.2.2.1 hk, Nat.le_trans h.2.2.2 hn⟩
theorem Rp.int {i : Int} (h : i.natAbs < 2 ^ 60) : Rp (.int i) 62 0 := by
  have h2 : i.natAbs.log2 < 60 := by
    by_cases z : i.natAbs = 0
    · rw [z]; decide
    · exact (Nat.log2_lt z).mpr h
  refine ⟨?_, rfl, Nat.le_refl _, ?_⟩
  · unfold PyData.showable
    exact decide_eq_true (by omega)
  · have := int_text_length_le (a := i) (k := 60) (by decide) h2
    unfold PyData.shown
    exact Nat.le_trans (Nat.le_of_eq (PySem.ofString_length _)) (by omega)
theorem Rp.bool {b : Bool} : Rp (.bool b) 62 0 := by
  refine ⟨rfl, rfl, Nat.le_refl _, ?_⟩
  cases b <;> decide
theorem piled_le {n k : Nat} : ∀ ds : List D, (∀ x ∈ ds, Rp x n k) → piled (PyData.shownAll ds) ≤ ds.length * (n + 2) ∧ PyData.showableAll ds = true ∧ PyData.hasDictAll ds = false ∧ PyData.depthAll ds ≤ k
  | [], _ => ⟨by simp [PyData.shownAll, piled], by simp [PyData.showableAll], by simp [PyData.hasDictAll], by simp [PyData.depthAll]⟩
  | x :: r, h => by
    obtain ⟨h1, h2, h3, h4⟩ := piled_le r fun y hy => h y (List.mem_cons_of_mem _ hy)
    obtain ⟨g1, g2, g3, g4⟩ := h x List.mem_cons_self
    refine ⟨?_, ?_, ?_, ?_⟩
    · rw [PyData.shownAll, piled_cons, List.length_cons, Nat.succ_mul]
      omega
    · rw [PyData.showableAll, g1, h2]; rfl
    · rw [PyData.hasDictAll, g2, h3]; rfl
    · rw [PyData.depthAll]
      omega
theorem join_le : ∀ ts : List Str, (Str.join ", " ts).length ≤ piled ts
  | [] => Nat.zero_le _
  | t :: r => by
    have := join_length_add (t :: r) (by simp)
    omega
theorem Rp.tuple {ds : List D} {n k m : Nat} (h : ∀ x ∈ ds, Rp x n k) (hm : ds.length ≤ m) : Rp (.tuple ds) (m * (n + 2) + 3) (k + 1) := by
  obtain ⟨h1, h2, h3, h4⟩ := piled_le ds h
  refine ⟨by rw [PyData.showable, h2], by rw [PyData.hasDict, h3], by rw [PyData.depth]; omega, ?_⟩
  have h5 := join_le (PyData.shownAll ds)
  have h6 := Nat.mul_le_mul_right (n + 2) hm
  rw [PyData.shown]
  unfold tupleText
  rw [strLen_append, strLen_append]
  have e1 : (("(" : String) : Str).length = 1 := rfl
  have e2 : ((if (PyData.shownAll ds).length == 1 then ",)" else ")" : String) : Str).length ≤ 2 := by split <;> decide
  omega
theorem textFrom_le : ∀ (ts : List Str) (k : Nat) (acc : Str), (textFrom k acc ts).length ≤ acc.length + piled ts
  | [], _, _ => Nat.le_add_right _ _
  | t :: r, k, acc => by
    have h := textFrom_le r (k + 1) (acc ++ (if k > 0 then ", " else "" : String) ++ t)
    have e : (acc ++ (if k > 0 then ", " else "" : String) ++ t).length = acc.length + (if k > 0 then 2 else 0) + t.length := by
      rw [strLen_append, strLen_append]
      split <;> rfl
    rw [e] at h
    rw [piled_cons]
    show (textFrom (k + 1) (acc ++ (if k > 0 then ", " else "" : String) ++ t) r).length ≤ _
    have e2 : (if k > 0 then 2 else 0) ≤ 2 := by split <;> decide
    omega
theorem Rp.list {ds : List D} {n k m : Nat} (h : ∀ x ∈ ds, Rp x n k) (hm : ds.length ≤ m) : Rp (.list ds) (m * (n + 2) + 3) (k + 1) := by
  obtain ⟨h1, h2, h3, h4⟩ := piled_le ds h
  refine ⟨by rw [PyData.showable, h2], by rw [PyData.hasDict, h3], by rw [PyData.depth]; omega, ?_⟩
  have h5 := textFrom_le (PyData.shownAll ds) 0 "["
  have h6 := Nat.mul_le_mul_right (n + 2) hm
  rw [PyData.shown]
  unfold listText
  rw [strLen_append]
  have e1 : (("[" : String) : Str).length = 1 := rfl
  have e2 : (("]" : String) : Str).length = 1 := rfl
  omega
theorem Rp.ints {ns : List Int} {m : Nat} (h : ∀ x ∈ ns, x.natAbs < 2 ^ 60) (hm : ns.length ≤ m) : Rp (dT ns) (m * 64 + 3) 1 := by
  unfold dT
  exact Rp.tuple (n := 62) (k := 0) (fun x hx => by
    obtain ⟨i, hi, rfl⟩ := List.mem_map.mp hx
    exact Rp.int (h i hi)) (by rw [List.length_map]; exact hm)
theorem Rp.lots {l : List (List Int)} {m q : Nat} (h : ∀ s ∈ l, s.length ≤ m ∧ ∀ x ∈ s, x.natAbs < 2 ^ 60) (hm : l.length ≤ q) : Rp (dTs l) (q * (m * 64 + 5) + 3) 2 := by
  unfold dTs
  exact Rp.tuple (n := m * 64 + 3) (k := 1) (fun x hx => by
    obtain ⟨s, hs, rfl⟩ := List.mem_map.mp hx
    exact Rp.ints (h s hs).2 (h s hs).1) (by rw [List.length_map]; exact hm)
theorem ne_self (s : Str) : fNe (.str s) (.str s) = some (.bool false) := by
  unfold fNe eqD
  simp
theorem eq_int (a b : Int) : fEq (.int a) (.int b) = some (.bool (a == b)) := by unfold fEq; rw [eqD_int]; rfl
theorem ne_int (a b : Int) : fNe (.int a) (.int b) = some (.bool (!(a == b))) := by unfold fNe; rw [eqD_int]; rfl
theorem ne_int_self (a : Int) : fNe (.int a) (.int a) = some (.bool false) := by rw [ne_int]; simp
theorem mul_small {a b : Int} (h : a.natAbs < 2 ^ 64) : fMul (.int a) (.int b) = some (.int (a * b)) := by
  unfold fMul mulOk
  simp [h]

/-! ### ranges -/
def rng (n : Nat) : List Int := (List.range n).map fun k => ((k : Nat) : Int)
theorem rngL0 (n : Nat) : rngL 0 n = (rng n).map .int := by
  unfold rngL rng
  rw [List.map_map]
  exact List.map_congr_left fun k _ => by simp
theorem rng_len (n : Nat) : (rng n).length = n := by unfold rng; simp
theorem rng_mem {n : Nat} {x : Int} : x ∈ rng n ↔ 0 ≤ x ∧ x < n := by
  unfold rng
  rw [List.mem_map]
  constructor
  · rintro ⟨k, hk, rfl⟩
    rw [List.mem_range] at hk
    omega
  · intro ⟨h1, h2⟩
    exact ⟨x.toNat, by rw [List.mem_range]; omega, by omega⟩
theorem rng_nodup (n : Nat) : (rng n).Nodup := by
  unfold rng
  rw [List.nodup_iff_pairwise_ne, List.pairwise_map]
  exact List.nodup_range.imp fun h e => h (Int.ofNat.inj e)
theorem rng_get {n i : Nat} (h : i < n) : (rng n)[i]? = some (i : Int) := by
  unfold rng
  rw [List.getElem?_map, List.getElem?_range h]; rfl
theorem rng_f {n : Nat} (h : n < 2 ^ 62) : rngF1 [.int n] = some ((rng n).map .int) := by
  unfold rngF1
  show (if _ then some (rngL 0 (Int.toNat n)) else none) = _
  rw [if_pos (by omega), Int.toNat_natCast, rngL0]
theorem rng_fi {n : Int} (h0 : 0 ≤ n) (h : n < 2 ^ 62) : rngF1 [.int n] = some ((rng n.toNat).map .int) := by
  have := rng_f (n := n.toNat) (by omega)
  rwa [show ((n.toNat : Nat) : Int) = n by omega] at this

/-! ### sums and greatest -/
theorem sum_ints (ns : List Int) : fSum [dT ns] = some (.int ns.sum) := by
  show (intsOf (ns.map .int)).map _ = _
  rw [intsOf_map]; rfl
theorem sum_intsL (ns : List Int) : fSum [.list (ns.map .int)] = some (.int ns.sum) := by
  show (intsOf (ns.map .int)).map _ = _
  rw [intsOf_map]; rfl
def mostOf : List Int → Int
  | [] => 0
  | n :: r => r.foldl max n
theorem max_ints {ns : List Int} (h : ns ≠ []) : fMax [dT ns] = some (.int (mostOf ns)) := by
  cases ns with
  | nil => exact absurd rfl h
  | cons n r =>
    show maxL ((n :: r).map .int) = _
    rw [maxL_ints]; rfl
theorem max_intsL {ns : List Int} (h : ns ≠ []) : fMax [.list (ns.map .int)] = some (.int (mostOf ns)) := by
  cases ns with
  | nil => exact absurd rfl h
  | cons n r =>
    show maxL ((n :: r).map .int) = _
    rw [maxL_ints]; rfl
theorem foldl_max_bd {lo hi : Int} : ∀ (r : List Int) (n : Int), lo ≤ n → n ≤ hi → (∀ x ∈ r, x ≤ hi) → lo ≤ r.foldl max n ∧ r.foldl max n ≤ hi
  | [], n, h1, h2, _ => ⟨h1, h2⟩
  | x :: r, n, h1, h2, h => by
    rw [List.foldl_cons]
    have := h x List.mem_cons_self
    exact foldl_max_bd r (max n x) (by omega) (by omega) fun y hy => h y (List.mem_cons_of_mem _ hy)
theorem most_bd {lo hi : Int} {ns : List Int} (h : ns ≠ []) (hb : ∀ x ∈ ns, lo ≤ x ∧ x ≤ hi) : lo ≤ mostOf ns ∧ mostOf ns ≤ hi := by
  cases ns with
  | nil => exact absurd rfl h
  | cons n r => exact foldl_max_bd r n (hb n List.mem_cons_self).1 (hb n List.mem_cons_self).2 fun x hx => (hb x (List.mem_cons_of_mem _ hx)).2
theorem foldl_max_two : ∀ (r : List Int) (n : Int), (r.map (2 * ·)).foldl max (2 * n) = 2 * r.foldl max n
  | [], _ => rfl
  | x :: r, n => by
    rw [List.map_cons, List.foldl_cons, List.foldl_cons, show max (2 * n) (2 * x) = 2 * max n x by omega]
    exact foldl_max_two r _
theorem most_two (ns : List Int) : mostOf (ns.map (2 * ·)) = 2 * mostOf ns := by
  cases ns with
  | nil => rfl
  | cons n r => exact foldl_max_two r n
theorem tuple_map {κ : Type} (l : List κ) (f : κ → D) : fTuple [.list (l.map f)] = some (.tuple (l.map f)) := rfl
theorem len_list (ds : List D) : fLen [.list ds] = some (.int ds.length) := rfl
theorem len_tup (ds : List D) : fLen [.tuple ds] = some (.int ds.length) := rfl

theorem ixN_of {n : Nat} {k : Int} (h0 : 0 ≤ k) (h1 : k < n) : ixN n k = some k.toNat := by
  unfold ixN
  rw [if_pos h0, if_pos h1]
theorem atI_map {κ : Type} {l : List κ} {f : κ → D} {k : Int} (h0 : 0 ≤ k) (h1 : k < l.length) : atI (l.map f) k = some (f (l[k.toNat]'(by omega))) := by
  unfold atI
  rw [List.length_map, ixN_of h0 h1]
  show (l.map f)[k.toNat]? = _
  rw [List.getElem?_map, List.getElem?_eq_getElem (by omega)]; rfl
theorem ix_list {κ : Type} {l : List κ} {f : κ → D} {k : Int} (h0 : 0 ≤ k) (h1 : k < l.length) : fIx (.list (l.map f)) (.int k) = some (f (l[k.toNat]'(by omega))) := atI_map h0 h1
theorem ix_tup {κ : Type} {l : List κ} {f : κ → D} {k : Int} (h0 : 0 ≤ k) (h1 : k < l.length) : fIx (.tuple (l.map f)) (.int k) = some (f (l[k.toNat]'(by omega))) := atI_map h0 h1

/-! ### lots -/
theorem sub_filter {L l : List Int} (h : l.Sublist L) (hn : L.Nodup) : L.filter (fun x => l.contains x) = l := by
  induction h with
  | slnil => rfl
  | @cons l L x h ih =>
    rw [List.nodup_cons] at hn
    rw [List.filter_cons, if_neg, ih hn.2]
    intro z
    exact hn.1 (h.subset (List.contains_iff_mem.mp z))
  | @cons_cons l L x h ih =>
    rw [List.nodup_cons] at hn
    rw [List.filter_cons, if_pos (by simp)]
    congr 1
    conv => rhs; rw [← ih hn.2]
    refine List.filter_congr fun y hy => ?_
    rw [List.contains_cons]
    have : (y == x) = false := by
      rw [beq_eq_false_iff_ne]
      intro e
      exact hn.1 (e ▸ hy)
    rw [this, Bool.false_or]
def cntIn (lots : List (List Int)) (x : Int) : Nat := (lots.filter fun l => l.contains x).length
def cnts (n : Nat) (lots : List (List Int)) : List Int := (rng n).map fun x => ((cntIn lots x : Nat) : Int)
theorem cnts_len (n : Nat) (lots : List (List Int)) : (cnts n lots).length = n := by unfold cnts; rw [List.length_map, rng_len]
theorem cnts_bd {n : Nat} {lots : List (List Int)} {x : Int} (h : x ∈ cnts n lots) : 0 ≤ x ∧ x ≤ lots.length := by
  unfold cnts at h
  obtain ⟨y, _, rfl⟩ := List.mem_map.mp h
  have := List.length_filter_le (fun l : List Int => l.contains y) lots
  unfold cntIn
  omega
theorem cnts_ne {n : Nat} {lots : List (List Int)} (h : 0 < n) : cnts n lots ≠ [] := by
  intro e
  have := cnts_len n lots
  rw [e] at this
  simp at this
  omega
theorem cnts_two (n : Nat) (lots : List (List Int)) : cnts n (lots ++ lots) = (cnts n lots).map (2 * ·) := by
  unfold cnts
  rw [List.map_map]
  refine List.map_congr_left fun x _ => ?_
  show ((cntIn (lots ++ lots) x : Nat) : Int) = 2 * ((cntIn lots x : Nat) : Int)
  unfold cntIn
  rw [List.filter_append, List.length_append]
  omega
theorem sum_map_add {κ : Type} (f g : κ → Int) : ∀ l : List κ, (l.map fun x => f x + g x).sum = (l.map f).sum + (l.map g).sum
  | [] => rfl
  | x :: r => by
    rw [List.map_cons, List.map_cons, List.map_cons, List.sum_cons, List.sum_cons, List.sum_cons, sum_map_add f g r]
    omega
theorem sum_ind (q : Int → Bool) : ∀ l : List Int, (l.map fun x => if q x = true then (1 : Int) else 0).sum = ((l.filter q).length : Nat)
  | [] => rfl
  | x :: r => by
    rw [List.map_cons, List.sum_cons, sum_ind q r, List.filter_cons]
    split <;> simp <;> omega
theorem cnts_sum {n : Nat} : ∀ lots : List (List Int), (∀ l ∈ lots, l.Sublist (rng n)) → (cnts n lots).sum = (lots.map fun l => ((l.length : Nat) : Int)).sum
  | [], _ => by
    unfold cnts cntIn
    simp only [List.filter_nil, List.length_nil, List.map_nil]
    generalize rng n = L
    induction L with
    | nil => rfl
    | cons x r ih => rw [List.map_cons, List.sum_cons, ih]; rfl
  | l :: r, h => by
    have ih := cnts_sum r fun s hs => h s (List.mem_cons_of_mem _ hs)
    have e : cnts n (l :: r) = (rng n).map fun x => (if l.contains x = true then (1 : Int) else 0) + ((cntIn r x : Nat) : Int) := by
      unfold cnts
      refine List.map_congr_left fun x _ => ?_
      unfold cntIn
      rw [List.filter_cons]
      split <;> simp <;> omega
    rw [e, sum_map_add, List.map_cons, List.sum_cons, sum_ind, sub_filter (h l List.mem_cons_self) (rng_nodup n)]
    unfold cnts at ih
    rw [ih]
end FL

namespace FL
open PySem PySem.Spec PyProof.Rows L2

/-! ### slices -/
abbrev SO (π : Type) := Sg → π → Option (Option Int × π)
def SemO {π : Type} (K : PySem.W.Frag) (Z : PotK π) (t : TO) (φ : SO π) : Prop :=
  ∀ (F : Fx) (B : Hp) (vs : L2.St) (H : Hp) (σ : Sg) (p : π) (o : Option Int) (p' : π) (Q : Option Int → Hp → Prop),
    Rep K Z F B vs H σ p → φ σ p = some (o, p') →
    (∀ H' B', Same B B' → Rep K Z F B' vs H' σ p' → Q o H') → t vs H Q
structure FO {π : Type} (S : Sta) (N : List Str) (sc : Scope) (Z : PotK π) (e : Option Expr) (φ : SO π) : Prop where
  ex : ∃ t, (∀ X, Fam S N sc X → PO X e t) ∧ SemO S.K Z t φ
def cutD (ds : List D) (lo hi : Option Int) : List D := (ds.drop (HT.sIx ds.length 0 lo)).take (HT.sIx ds.length ds.length hi - HT.sIx ds.length 0 lo)
theorem cutD_of {K : PySem.W.Frag} {B : Hp} {xs : List V} {ds : List D} (h : DqAll K B xs ds) (lo hi : Option Int) : DqAll K B (cutV xs lo hi) (cutD ds lo hi) := by
  unfold cutV cutD
  rw [DqAll.len h]
  exact (h.rest _).cut _
theorem cutD_whole {ds : List D} {lo hi : Option Int} (h : HT.sIx ds.length 0 lo = 0 ∧ HT.sIx ds.length ds.length hi = ds.length) : cutD ds lo hi = ds := by
  unfold cutD
  rw [h.1, h.2]
  simp
def fSlice (d : D) (lo hi : Option Int) : Option D := match d with
  | .tuple ds => some (.tuple (cutD ds lo hi))
  | _ => none
def fSliceL (d : D) (lo hi : Option Int) : Option (List D) := match d with
  | .list ds => some (cutD ds lo hi)
  | _ => none
section
variable {π : Type} {Z : PotK π} {S : Sta} {N : List Str} {sc : Scope} {e a b : Expr} {es : List Expr} {pos p2 : Pos} {α β : SE π} {u v : SO π} {lo hi : Option Expr}
def oNone : SO π := fun _ p => some (none, p)
def oSome (α : SE π) : SO π := fun σ p => (α σ p).bind fun x => match x.1 with
  | .int i => some (some i, x.2)
  | _ => none
theorem fo_none : FO S N sc Z none oNone := ⟨_, fun _ _ => po_none, fun F B vs H σ p o p' Q r e k => by
  cases e
  exact k H B (Same.refl B) r⟩
theorem fo_some (h : FE S N sc Z e α) : FO S N sc Z (some e) (oSome α) := by
  obtain ⟨t, h1, h2⟩ := h.ex
  refine ⟨_, fun X hX => po_some (h1 X hX), fun F B vs H σ p o p' Q r q k => ?_⟩
  obtain ⟨⟨x, p1⟩, e1, q⟩ := bnd q
  refine h2 F B vs H σ p x p1 _ r e1 fun w H1 B1 s1 r1 d1 => ?_
  cases x with
  | int i =>
    cases q
    cases d1
    exact ⟨i, rfl, k H1 B1 s1 r1⟩
  | _ => cases q
def xSlice (α : SE π) (u v : SO π) : SE π := fun σ p => (α σ p).bind fun x => (u σ x.2).bind fun y => (v σ y.2).bind fun z => (fSlice x.1 y.1 z.1).map fun w => (w, z.2)
def lSlice (α : SE π) (u v : SO π) : SL π := fun σ p => (α σ p).bind fun x => (u σ x.2).bind fun y => (v σ y.2).bind fun z => (fSliceL x.1 y.1 z.1).map fun w => (w, z.2)
theorem fe_slice (he : FE S N sc Z e α) (hl : FO S N sc Z lo u) (hu : FO S N sc Z hi v) : FE S N sc Z (.Subscript e (.Slice lo hi none p2) pos) (xSlice α u v) := by
  obtain ⟨te, a1, a2⟩ := he.ex
  obtain ⟨tl, b1, b2⟩ := hl.ex
  obtain ⟨th, c1, c2⟩ := hu.ex
  refine ⟨tSl (rSlA S.K) te tl th, fun X hX => by
    have hK : X.K = S.K := by obtain ⟨_, _, _, _, _, _, _, _, _, _, rfl⟩ := hX; rfl
    rw [← hK]
    exact pe_slice sl_tupA (a1 X hX) (b1 X hX) (c1 X hX), fun F B vs H σ p d p' Q r q k => ?_⟩
  obtain ⟨⟨x, p1⟩, e1, q⟩ := bnd q
  obtain ⟨⟨y, p2⟩, e2, q⟩ := bnd q
  obtain ⟨⟨z, p3⟩, e3, q⟩ := bnd q
  obtain ⟨w, e4, q⟩ := mpd q
  cases q
  refine a2 F B vs H σ p x p1 _ r e1 fun v1 H1 B1 s1 r1 d1 => ?_
  refine b2 F B1 vs H1 σ p1 y p2 _ r1 e2 fun H2 B2 s2 r2 => ?_
  refine c2 F B2 vs H2 σ p2 z p3 _ r2 e3 fun H3 B3 s3 r3 => ?_
  have d3 := Dq_up (s2.trans s3) _ _ d1
  cases x with
  | tuple ds =>
    cases e4
    cases d3 with
    | @tup a xs _ h1 h2 =>
      refine ⟨a, xs, rfl, sq_t r3.sub h1, fun hw => ?_, fun hw q hq => ?_⟩
      · refine k _ H3 B3 ((s1.trans s2).trans s3) r3 ?_
        rw [cutD_whole (by rw [← DqAll.len h2]; exact hw)]
        exact .tup h1 h2
      · have gr := Gr.new r3.sub (o := .tup (cutV xs y z)) hq
        exact k _ _ _ (((s1.trans s2).trans s3).trans gr.b) (r3.grow gr) (.tup (SqT.of upd_same) (DqA_up gr.b _ _ (cutD_of h2 y z)))
  | _ => cases e4
theorem fl_slice (he : FE S N sc Z e α) (hl : FO S N sc Z lo u) (hu : FO S N sc Z hi v) : FL S N sc Z (.Subscript e (.Slice lo hi none p2) pos) (lSlice α u v) := by
  obtain ⟨te, a1, a2⟩ := he.ex
  obtain ⟨tl, b1, b2⟩ := hl.ex
  obtain ⟨th, c1, c2⟩ := hu.ex
  refine ⟨tSl (rSlL S.K) te tl th, fun X hX => by
    have hK : X.K = S.K := by obtain ⟨_, _, _, _, _, _, _, _, _, _, rfl⟩ := hX; rfl
    rw [← hK]
    exact pe_slice sl_list (a1 X hX) (b1 X hX) (c1 X hX), fun F B vs H σ p ds p' Q r q k => ?_⟩
  obtain ⟨⟨x, p1⟩, e1, q⟩ := bnd q
  obtain ⟨⟨y, p2⟩, e2, q⟩ := bnd q
  obtain ⟨⟨z, p3⟩, e3, q⟩ := bnd q
  obtain ⟨w, e4, q⟩ := mpd q
  cases q
  refine a2 F B vs H σ p x p1 _ r e1 fun v1 H1 B1 s1 r1 d1 => ?_
  refine b2 F B1 vs H1 σ p1 y p2 _ r1 e2 fun H2 B2 s2 r2 => ?_
  refine c2 F B2 vs H2 σ p2 z p3 _ r2 e3 fun H3 B3 s3 r3 => ?_
  have d3 := Dq_up (s2.trans s3) _ _ d1
  cases x with
  | list ds =>
    cases e4
    cases d3 with
    | @lst a xs _ h1 h2 =>
      refine ⟨a, xs, rfl, SqL.of (r3.sub _ _ h1), fun q hq => ?_⟩
      exact k q _ B3 ((s1.trans s2).trans s3) (newL_of r3 (Gr.lay r3.sub hq) hq (r3.sub.free hq) upd_same (cutD_of h2 y z))
  | _ => cases e4
end
/-! ### a list of one's own, looked at -/
def hid : Sl → Sl
  | .own _ => .un
  | s => s
def shw : Sl → Sl
  | .own ds => .val (.list ds)
  | s => s
def borS : Nat → Sg → Sg
  | _, [] => []
  | 0, s :: r => shw s :: r.map hid
  | n + 1, s :: r => hid s :: borS n r
theorem hid_get (r : Sg) (j : Nat) (s : Sl) (h : (r.map hid)[j]? = some s) : r[j]? = some s ∨ s = .un := by
  rw [List.getElem?_map] at h
  obtain ⟨t, h1, h2⟩ := mpd h
  cases t with
  | own _ => exact .inr h2.symm
  | _ => left; rw [h1]; exact congrArg some h2
theorem hid_own (s : Sl) (ds : List D) : hid s ≠ .own ds := by cases s <;> (intro e; cases e)
theorem bor_get : ∀ (n : Nat) (σ : Sg) (ds : List D), σ[n]? = some (.own ds) → (borS n σ).length = σ.length ∧ ∀ (j : Nat) (s : Sl), (borS n σ)[j]? = some s → (j = n ∧ s = .val (.list ds)) ∨ ((∀ es, s ≠ .own es) ∧ (σ[j]? = some s ∨ s = .un))
  | 0, .own es :: r, ds, h => by
    cases h
    refine ⟨by simp [borS], fun j s hj => ?_⟩
    cases j with
    | zero => cases hj; exact .inl ⟨rfl, rfl⟩
    | succ j =>
      have hj : (r.map hid)[j]? = some s := hj
      refine .inr ⟨fun es e => ?_, hid_get r j s hj⟩
      rw [List.getElem?_map] at hj
      obtain ⟨t, _, h2⟩ := mpd hj
      exact hid_own t es (h2.trans e)
  | n + 1, t :: r, ds, h => by
    obtain ⟨h1, h2⟩ := bor_get n r ds h
    refine ⟨by simp [borS, h1], fun j s hj => ?_⟩
    cases j with
    | zero =>
      have hj : some (hid t) = some s := hj
      cases hj
      refine .inr ⟨fun es => hid_own t es, ?_⟩
      cases t with
      | own _ => exact .inr rfl
      | _ => exact .inl rfl
    | succ j =>
      rcases h2 j s hj with ⟨z, w⟩ | z
      · exact .inl ⟨by rw [z], w⟩
      · exact .inr z
mutual
/-- no list in it -/
def flatD : D → Bool
  | .none => true
  | .bool _ => true
  | .int _ => true
  | .str _ => true
  | .list _ => false
  | .tuple ds => flatAll ds
  | .dict _ => false
def flatAll : List D → Bool
  | [] => true
  | d :: ds => flatD d && flatAll ds
end
def minus (B : Hp) (a : Addr) : Hp := fun b => if b = a then none else B b
theorem minus_ne {B : Hp} {a b : Addr} (h : b ≠ a) : minus B a b = B b := by unfold minus; rw [if_neg h]
theorem minus_same {B : Hp} {a : Addr} : minus B a a = none := by unfold minus; rw [if_pos rfl]
theorem sq_minus {K : PySem.W.Frag} {B : Hp} {a c : Addr} {ys xs : List V} (ha : B a = some (.lst ys)) (h : SqT K B c xs) : SqT K (minus B a) c xs := by
  rcases h with (h | ⟨o, h⟩) | h
  · have n : c ≠ a := fun z => by rw [z, ha] at h; cases h
    exact .inl (.inl (by rw [minus_ne n]; exact h))
  · have n : c ≠ a := fun z => by rw [z, ha] at h; cases h
    exact .inl (.inr ⟨o, by rw [minus_ne n]; exact h⟩)
  · exact .inr h
mutual
theorem Dq_minus {K : PySem.W.Frag} {B : Hp} {a : Addr} {ys : List V} (ha : B a = some (.lst ys)) : ∀ (d : D) (v : V), flatD d = true → Dq K B v d → Dq K (minus B a) v d
  | .none, _, _, h => by cases h; exact .non
  | .bool _, _, _, h => by cases h; exact .bl _
  | .int _, _, _, h => by cases h; exact .int _
  | .str _, _, _, h => by cases h; exact .str _
  | .list ds, _, f, h => by simp [flatD] at f
  | .tuple ds, _, f, h => by
    have f : flatAll ds = true := by simpa [flatD] using f
    cases h with
    | tup hs hd => exact .tup (sq_minus ha hs) (DqA_minus ha ds _ f hd)
  | .dict _, _, f, _ => by simp [flatD] at f
theorem DqA_minus {K : PySem.W.Frag} {B : Hp} {a : Addr} {ys : List V} (ha : B a = some (.lst ys)) : ∀ (ds : List D) (vs : List V), flatAll ds = true → DqAll K B vs ds → DqAll K (minus B a) vs ds
  | [], _, _, h => by cases h; exact .nil
  | d :: ds, _, f, h => by
    have f : flatD d = true ∧ flatAll ds = true := by simpa [flatAll] using f
    cases h with
    | cons h1 h2 => exact .cons (Dq_minus ha d _ f.1 h1) (DqA_minus ha ds _ f.2 h2)
end
def xBor {π : Type} (i : Nat) (α : SE π) : SE π := fun σ p => match σ[i]? with
  | some (.own _) => (α (borS i σ) p).bind fun x => if flatD x.1 = true then some x else none
  | _ => none
theorem sem_bor {π : Type} {Z : PotK π} {K : PySem.W.Frag} {te : TE} {α : SE π} (i : Nat) (h : SemE K Z te α) : SemE K Z te (xBor i α) := by
  intro F B vs H σ p d p' Q r e k
  unfold xBor at e
  split at e
  case h_2 => cases e
  rename_i ds q
  obtain ⟨⟨x, p1⟩, e1, e⟩ := bnd e
  have e : (if flatD x = true then some (x, p1) else none) = some (d, p') := e
  split at e
  case isFalse => cases e
  rename_i hf
  cases e
  obtain ⟨a, xs, a1, a2, a3, a4, a5, a6⟩ := r.own i ds q
  have s1 : Same B (upd B a (.lst xs)) := Same.put a4
  obtain ⟨g1, g2⟩ := bor_get i σ ds q
  have afp : a ∉ Z.fp F.pa F.g := fun z => a6 (r.potN a z)
  have r2 : Rep K Z ⟨F.pa, F.g, fun b => F.N b ∨ ∃ j es, j ≠ i ∧ σ[j]? = some (.own es) ∧ vs[j]? = some (some (.ref b)), H⟩ (upd B a (.lst xs)) vs H (borS i σ) p := by
    refine ⟨fun b o e => ?_, fun b o _ e => e, r.pok, fun b h => .inl (r.potN b h), fun b h => ?_, fun b h => ?_, by rw [g1]; exact r.len, fun j d e => ?_, fun j es e => ?_, fun j e => ?_, fun j l b xs ys _ _ e _ => ?_⟩
    · by_cases z : b = a
      · subst z; rw [upd_same] at e; rw [← e]; exact a2
      · rw [upd_ne z] at e; exact r.sub b o e
    · rcases h with h | ⟨j, es, hj, hs, hv⟩
      · rw [upd_ne (show b ≠ a from fun z => a6 (by rw [← z]; exact h))]; exact r.noB b h
      · obtain ⟨c, ys, b1, b2, b3, b4, b5, b6⟩ := r.own j es hs
        rw [hv] at b1
        cases b1
        rw [upd_ne (show b ≠ a from fun z => hj (r.apart j i b es ds hv (by rw [z]; exact a1) hs q))]; exact b4
    · rcases h with h | ⟨j, es, hj, hs, hv⟩
      · exact r.noH b h
      · obtain ⟨c, ys, b1, b2, _⟩ := r.own j es hs
        rw [hv] at b1
        cases b1
        rw [b2]; simp
    · rcases g2 j _ e with ⟨z, w⟩ | ⟨_, z | z⟩
      · cases w
        subst z
        exact ⟨_, a1, .lst upd_same (DqA_up s1 ds xs a3)⟩
      · obtain ⟨v, b1, b2⟩ := r.val j _ z
        exact ⟨v, b1, Dq_up s1 _ _ b2⟩
      · cases z
    · rcases g2 j _ e with ⟨_, w⟩ | ⟨z, _⟩
      · cases w
      · exact absurd rfl (z es)
    · rcases g2 j _ e with ⟨_, w⟩ | ⟨_, z | z⟩
      · cases w
      · exact r.pot j z
      · cases z
    · rcases g2 j _ e with ⟨_, w⟩ | ⟨z, _⟩
      · cases w
      · exact absurd rfl (z xs)
  refine h _ _ vs H _ p d p' Q r2 e1 fun v H2 B2 s2 r3 d2 => ?_
  have keep : ∀ b o, b ∉ Z.fp F.pa F.g → H b = some o → H2 b = some o := fun b o n e => r3.old b o n e
  have hB2 : B2 a = some (.lst xs) := s2 a _ upd_same
  have s3 : Same B (minus B2 a) := fun b o e => by
    rw [minus_ne (ne_of_none e a4)]; exact s2 b o (s1 b o e)
  refine k v H2 (minus B2 a) s3 ⟨fun b o e => ?_, fun b o n e => keep b o n (r.old b o n e), r3.pok, r.potN, fun b hb => ?_, fun b hb => ?_, r.len, fun j d e => ?_, fun j es eo => ?_, r.pot, r.apart⟩ (Dq_minus hB2 d v hf d2)
  · by_cases z : b = a
    · rw [z, minus_same] at e; cases e
    · rw [minus_ne z] at e; exact r3.sub b o e
  · by_cases z : b = a
    · rw [z]; exact minus_same
    · rw [minus_ne z]; exact r3.noB b (.inl hb)
  · by_cases z : b ∈ Z.fp F.pa F.g
    · exact Z.trk F.pa F.g H2 p' r3.pok b z
    · cases e : H b with
      | none => exact absurd e (r.noH b hb)
      | some o => rw [keep b o z e]; simp
  · obtain ⟨v, b1, b2⟩ := r.val j d e
    exact ⟨v, b1, Dq_up s3 _ _ b2⟩
  · obtain ⟨c, ys, h1, h2, h3, h4, h5, h6⟩ := r.own j es eo
    refine ⟨c, ys, h1, keep c _ (fun z => h6 (r.potN c z)) h2, DqA_up s3 _ _ h3, ?_, h5, h6⟩
    by_cases z : j = i
    · subst z
      rw [q] at eo; cases eo
      rw [a1] at h1; cases h1
      exact minus_same
    · have hca : c ≠ a := fun w => z (r.apart j i c es ds h1 (by rw [w]; exact a1) eo q)
      rw [minus_ne hca]
      exact r3.noB c (.inr ⟨j, es, z, eo, h1⟩)
def xBorT {π : Type} (i : Nat) (φ : SB π) : SB π := fun σ p => match σ[i]? with
  | some (.own _) => φ (borS i σ) p
  | _ => none
theorem sem_borT {π : Type} {Z : PotK π} {K : PySem.W.Frag} {tt : TT} {φ : SB π} (i : Nat) (h : SemT K Z tt φ) : SemT K Z tt (xBorT i φ) := by
  have h1 : SemE K Z (fun σ H Q => tt σ H fun b H' => Q (.bl b) H') (fun σ p => (φ σ p).map fun x => (.bool x.1, x.2)) := by
    intro F B vs H σ p d p' Q r e k
    obtain ⟨⟨c, p1⟩, e1, e2⟩ := mpd e
    cases e2
    exact h F B vs H σ p c p1 _ r e1 fun H' B' s r' => k _ H' B' s r' (.bl c)
  intro F B vs H σ p b p' Q r e k
  have e2 : xBor i (fun σ p => (φ σ p).map fun x => (.bool x.1, x.2)) σ p = some (.bool b, p') := by
    unfold xBorT at e
    unfold xBor
    split at e
    · rename_i ds q
      show (((φ (borS i σ) p).map _).bind _) = _
      rw [e]; rfl
    · cases e
  exact sem_bor i h1 F B vs H σ p (.bool b) p' (fun v H' => match v with
    | .bl b => Q b H'
    | _ => False) r e2 fun v H' B' s r' d => by
      cases d
      exact k H' B' s r'
theorem ft_borrow {π : Type} {Z : PotK π} {S : Sta} {N : List Str} {sc : Scope} {e : Expr} {φ : SB π} (i : Nat) (h : FT S N sc Z e φ) : FT S N sc Z e (xBorT i φ) := by
  obtain ⟨te, h1, h2⟩ := h.ex
  exact ⟨te, h1, sem_borT i h2⟩
theorem fe_borrow {π : Type} {Z : PotK π} {S : Sta} {N : List Str} {sc : Scope} {e : Expr} {α : SE π} (i : Nat) (h : FE S N sc Z e α) : FE S N sc Z e (xBor i α) := by
  obtain ⟨te, h1, h2⟩ := h.ex
  exact ⟨te, h1, sem_bor i h2⟩

/-! ### more assignments -/
section
variable {π : Type} {Z : PotK π} {S : Sta} {N : List Str} {sc : Scope} {e a b c : Expr} {pos : Pos} {α β γ : SE π} {ω χ : SL π}
def sAsg (α : SE π) (τ : D → Sg → Option Sg) : SS π := fun σ p => (α σ p).bind fun x => (τ x.1 σ).map fun σ1 => .nx σ1 x.2
theorem fs_asg {tg : Expr} {τ : D → Sg → Option Sg} (he : FE S N sc Z e α) (hg : FG S N sc tg τ)
    (hs : InSc sc fun env => swapsWithSole [tg] e pos.line env = pure false := by intro env h; cases env; cases h; rfl)
    (hw : InSc sc fun env => swappedStores [tg] e env = pure none := by intro env h; cases env; cases h; rfl)
    (h1 : InSc sc fun env => (assignEach [tg] env).map (·.2) = [assign tg env] := by intro env h; rfl) : FS S N sc Z (.Assign [tg] e pos) (sAsg α τ) := by
  obtain ⟨t, a1, a2⟩ := he.ex
  obtain ⟨g, b1, b2⟩ := hg.ex
  refine ⟨tAsg t g, fun X hX => ps_asg (a1 X hX.1) (b1 X hX) (hs.at hX.1) (hw.at hX.1) (h1.at hX.1), fun F B vs H σ p o E r q k => ?_⟩
  obtain ⟨⟨x, p1⟩, e1, q⟩ := bnd q
  obtain ⟨σ1, e2, q⟩ := mpd q
  cases q
  refine a2 F B vs H σ p x p1 _ r e1 fun v H1 B1 s1 r1 d1 => ?_
  exact b2 Z F B1 vs H1 σ p1 v x σ1 _ r1 d1 e2 fun vs' r2 => k vs' H1 B1 s1 r2
def tgT3 (i j l : Nat) : D → Sg → Option Sg := fun d σ => match d with
  | .tuple [x, y, z] => some (((σ.set i (.val x)).set j (.val y)).set l (.val z))
  | _ => none
theorem fg_t3 {x y z : Str} {p1 p2 p3 : Pos} {k} (i j l : Nat) (hi : N[i]? = some x := by rfl) (hj : N[j]? = some y := by rfl) (hl : N[l]? = some z := by rfl) (hx : Loc sc x := by first | exact Or.inl rfl | exact Or.inr rfl)
    (hy : Loc sc y := by first | exact Or.inl rfl | exact Or.inr rfl) (hz : Loc sc z := by first | exact Or.inl rfl | exact Or.inr rfl) : FG S N sc (.Tuple [.Name x p1, .Name y p2, .Name z p3] k pos) (tgT3 i j l) := by
  refine ⟨gTup S.K 3 (gCons (gName i) (gCons (gName j) (gCons (gName l) gNil))), fun X hX => ?_, ?_⟩
  · obtain ⟨⟨nd, s0, H0, env, outer, stack, ex, fn, pn, hs', e⟩, hf⟩ := hX
    subst e
    exact pg_tup rfl (pgs_cons (pg_name nd hi (by show Loc env.scope x; rw [hs']; exact hx) (.inl (hf x))) (pgs_cons (pg_name nd hj (by show Loc env.scope y; rw [hs']; exact hy) (.inl (hf y))) (pgs_cons (pg_name nd hl (by show Loc env.scope z; rw [hs']; exact hz) (.inl (hf z))) pgs_nil)))
  · intro π Z F B vs H σ p v d σ' Q r hd e k
    cases hd with
    | tup hs ha =>
      cases ha with
      | nil => cases e
      | cons h1 ha =>
        cases ha with
        | nil => cases e
        | cons h2 ha =>
          cases ha with
          | nil => cases e
          | cons h3 ha =>
            cases ha with
            | nil =>
              cases e
              exact ⟨_, _, rfl, sq_t r.sub hs, rfl, _, _, rfl, _, _, rfl, _, _, rfl, rfl, k _ (((r.set i h1).set j h2).set l h3)⟩
            | cons _ _ => cases e
    | _ => cases e
/-- a, b, c = e1, e2, e3: three local names -/
def sPar3 (i j l : Nat) (α β γ : SE π) : SS π := fun σ p => (α σ p).bind fun x => (β σ x.2).bind fun y => (γ σ y.2).map fun z => .nx (((σ.set i (.val x.1)).set j (.val y.1)).set l (.val z.1)) z.2
theorem fs_par3 {x y z : Str} {px py pz pt pt2 : Pos} {kt k2} (i j l : Nat) (h : FA S N sc Z [a, b, c] (aCons α (aCons β (aCons γ aNil)))) (hij : i ≠ j := by decide) (hil : i ≠ l := by decide) (hjl : j ≠ l := by decide) (hi : N[i]? = some x := by rfl) (hj : N[j]? = some y := by rfl) (hl : N[l]? = some z := by rfl)
    (hx : sc.names.lookup x = some .local := by rfl) (hy : sc.names.lookup y = some .local := by rfl) (hz : sc.names.lookup z = some .local := by rfl)
    (hw : InSc sc fun env => swappedStores [.Tuple [.Name x px, .Name y py, .Name z pz] kt pt] (.Tuple [a, b, c] k2 pt2) env = pure (some [x, y, z]) := by intro env h; cases env; cases h; rfl)
    (hs : InSc sc fun env => swapsWithSole [.Tuple [.Name x px, .Name y py, .Name z pz] kt pt] (.Tuple [a, b, c] k2 pt2) pos.line env = pure false := by intro env h; cases env; cases h; rfl) :
    FS S N sc Z (.Assign [.Tuple [.Name x px, .Name y py, .Name z pz] kt pt] (.Tuple [a, b, c] k2 pt2) pos) (sPar3 i j l α β γ) := by
  obtain ⟨t, a1, a2⟩ := h.ex
  refine ⟨tPar3 i j l t, fun X hX => ?_, fun F B vs H σ p o E r e k => ?_⟩
  · have ha := a1 X hX.1
    have hw' := hw.at hX.1
    have hs'' := hs.at hX.1
    obtain ⟨⟨nd, s0, H0, env, outer, stack, ex, fn, pn, hs', e⟩, hf⟩ := hX
    subst e
    exact ps_par3 rfl nd hi hj hl hij hil hjl (by show env.scope.names.lookup x = _; rw [hs']; exact hx) (by show env.scope.names.lookup y = _; rw [hs']; exact hy) (by show env.scope.names.lookup z = _; rw [hs']; exact hz) ha hw' hs''
  obtain ⟨⟨x, p1⟩, e1, e⟩ := bnd e
  obtain ⟨⟨y, p2⟩, e2, e⟩ := bnd e
  obtain ⟨⟨z, p3⟩, e3, e4⟩ := mpd e
  cases e4
  refine a2 F B vs H σ p [x, y, z] p3 _ r (by unfold aCons; rw [e1]; show (((β σ p1).bind _).map _) = _; rw [e2]; show ((((γ σ p2).bind _).map _).map _) = _; rw [e3]; rfl) fun ys H1 B1 s1 r1 d1 => ?_
  cases d1 with
  | cons dx dn =>
    cases dn with
    | cons dy dn =>
      cases dn with
      | cons dz dn =>
        cases dn
        exact ⟨_, _, _, rfl, k _ H1 B1 s1 (((r1.set i dx).set j dy).set l dz)⟩
/-- a, b = a new list, a value -/
def sParLE (i j : Nat) (ω : SL π) (β : SE π) : SS π := fun σ p => (ω σ p).bind fun x => (β σ x.2).map fun y => .nx ((σ.set i (.own x.1)).set j (.val y.1)) y.2
def sParEL (i j : Nat) (α : SE π) (ω : SL π) : SS π := fun σ p => (α σ p).bind fun x => (ω σ x.2).map fun y => .nx ((σ.set j (.own y.1)).set i (.val x.1)) y.2
def sParLL (i j : Nat) (ω χ : SL π) : SS π := fun σ p => (ω σ p).bind fun x => (χ σ x.2).map fun y => .nx ((σ.set i (.own x.1)).set j (.own y.1)) y.2
theorem fs_parLE {x y : Str} {px py pt pt2 : Pos} {kt k2} (i j : Nat) (h1 : FL S N sc Z a ω) (h2 : FE S N sc Z b β) (hs1 : ∀ X : Cx, starEach [a, b] X.env = (false, eval a X.env) :: starEach [b] X.env := by intro _; rfl) (hs2 : ∀ X : Cx, starEach [b] X.env = (false, eval b X.env) :: starEach [] X.env := by intro _; rfl)
    (hij : i ≠ j := by decide) (hi : N[i]? = some x := by rfl) (hj : N[j]? = some y := by rfl) (hx : sc.names.lookup x = some .local := by rfl) (hy : sc.names.lookup y = some .local := by rfl)
    (hw : InSc sc fun env => swappedStores [.Tuple [.Name x px, .Name y py] kt pt] (.Tuple [a, b] k2 pt2) env = pure (some [x, y]) := by intro env h; cases env; cases h; rfl)
    (hs : InSc sc fun env => swapsWithSole [.Tuple [.Name x px, .Name y py] kt pt] (.Tuple [a, b] k2 pt2) pos.line env = pure false := by intro env h; cases env; cases h; rfl) :
    FS S N sc Z (.Assign [.Tuple [.Name x px, .Name y py] kt pt] (.Tuple [a, b] k2 pt2) pos) (sParLE i j ω β) := by
  obtain ⟨t, a1, a2⟩ := h1.ex
  obtain ⟨u, b1, b2⟩ := h2.ex
  refine ⟨_, fun X hX => par_at hX (pa_cons (a1 X hX.1) (pa_cons (b1 X hX.1) pa_nil (hs2 X)) (hs1 X)) hij hi hj hx hy (hw.at hX.1) (hs.at hX.1), fun F B vs H σ p o E r e k => ?_⟩
  obtain ⟨⟨x, p1⟩, e1, e⟩ := bnd e
  obtain ⟨⟨y, p2⟩, e2, e⟩ := mpd e
  cases e
  refine a2 F B vs H σ p x p1 _ r e1 fun l H1 B1 s1 n => ?_
  obtain ⟨xs, g1, g2⟩ := n.is
  refine b2 (F.with l xs) B1 vs H1 σ p1 y p2 _ (n.go g1) e2 fun v H2 B2 s2 r2 d2 => ?_
  have n2 := NewL.come r2 n.n0 n.nN n.rep.potN (DqA_up s2 _ _ g2)
  obtain ⟨zs, f1, f2⟩ := n2.is
  exact ⟨_, _, rfl, k _ H2 B2 (s1.trans s2) ((n2.rep.setL i f1 f2 n2.nB n2.n0 n2.nN fun j es _ q => n2.nS j es q).set j d2)⟩
theorem fs_parEL {x y : Str} {px py pt pt2 : Pos} {kt k2} (i j : Nat) (h1 : FE S N sc Z a α) (h2 : FL S N sc Z b ω) (hs1 : ∀ X : Cx, starEach [a, b] X.env = (false, eval a X.env) :: starEach [b] X.env := by intro _; rfl) (hs2 : ∀ X : Cx, starEach [b] X.env = (false, eval b X.env) :: starEach [] X.env := by intro _; rfl)
    (hij : i ≠ j := by decide) (hi : N[i]? = some x := by rfl) (hj : N[j]? = some y := by rfl) (hx : sc.names.lookup x = some .local := by rfl) (hy : sc.names.lookup y = some .local := by rfl)
    (hw : InSc sc fun env => swappedStores [.Tuple [.Name x px, .Name y py] kt pt] (.Tuple [a, b] k2 pt2) env = pure (some [x, y]) := by intro env h; cases env; cases h; rfl)
    (hs : InSc sc fun env => swapsWithSole [.Tuple [.Name x px, .Name y py] kt pt] (.Tuple [a, b] k2 pt2) pos.line env = pure false := by intro env h; cases env; cases h; rfl) :
    FS S N sc Z (.Assign [.Tuple [.Name x px, .Name y py] kt pt] (.Tuple [a, b] k2 pt2) pos) (sParEL i j α ω) := by
  obtain ⟨t, a1, a2⟩ := h1.ex
  obtain ⟨u, b1, b2⟩ := h2.ex
  refine ⟨_, fun X hX => par_at hX (pa_cons (a1 X hX.1) (pa_cons (b1 X hX.1) pa_nil (hs2 X)) (hs1 X)) hij hi hj hx hy (hw.at hX.1) (hs.at hX.1), fun F B vs H σ p o E r e k => ?_⟩
  obtain ⟨⟨x, p1⟩, e1, e⟩ := bnd e
  obtain ⟨⟨y, p2⟩, e2, e⟩ := mpd e
  cases e
  refine a2 F B vs H σ p x p1 _ r e1 fun v H1 B1 s1 r1 d1 => ?_
  refine b2 F B1 vs H1 σ p1 y p2 _ r1 e2 fun l H2 B2 s2 n => ?_
  obtain ⟨xs, g1, g2⟩ := n.is
  refine ⟨_, _, rfl, ?_⟩
  rw [List.set_comm _ _ hij]
  exact k _ H2 B2 (s1.trans s2) ((n.rep.setL j g1 g2 n.nB n.n0 n.nN fun j es _ q => n.nS j es q).set i (Dq_up s2 _ _ d1))
theorem fs_parLL {x y : Str} {px py pt pt2 : Pos} {kt k2} (i j : Nat) (h1 : FL S N sc Z a ω) (h2 : FL S N sc Z b χ) (hs1 : ∀ X : Cx, starEach [a, b] X.env = (false, eval a X.env) :: starEach [b] X.env := by intro _; rfl) (hs2 : ∀ X : Cx, starEach [b] X.env = (false, eval b X.env) :: starEach [] X.env := by intro _; rfl)
    (hij : i ≠ j := by decide) (hi : N[i]? = some x := by rfl) (hj : N[j]? = some y := by rfl) (hx : sc.names.lookup x = some .local := by rfl) (hy : sc.names.lookup y = some .local := by rfl)
    (hw : InSc sc fun env => swappedStores [.Tuple [.Name x px, .Name y py] kt pt] (.Tuple [a, b] k2 pt2) env = pure (some [x, y]) := by intro env h; cases env; cases h; rfl)
    (hs : InSc sc fun env => swapsWithSole [.Tuple [.Name x px, .Name y py] kt pt] (.Tuple [a, b] k2 pt2) pos.line env = pure false := by intro env h; cases env; cases h; rfl) :
    FS S N sc Z (.Assign [.Tuple [.Name x px, .Name y py] kt pt] (.Tuple [a, b] k2 pt2) pos) (sParLL i j ω χ) := by
  obtain ⟨t, a1, a2⟩ := h1.ex
  obtain ⟨u, b1, b2⟩ := h2.ex
  refine ⟨_, fun X hX => par_at hX (pa_cons (a1 X hX.1) (pa_cons (b1 X hX.1) pa_nil (hs2 X)) (hs1 X)) hij hi hj hx hy (hw.at hX.1) (hs.at hX.1), fun F B vs H σ p o E r e k => ?_⟩
  obtain ⟨⟨x, p1⟩, e1, e⟩ := bnd e
  obtain ⟨⟨y, p2⟩, e2, e⟩ := mpd e
  cases e
  refine a2 F B vs H σ p x p1 _ r e1 fun l H1 B1 s1 n => ?_
  obtain ⟨xs, g1, g2⟩ := n.is
  refine b2 (F.with l xs) B1 vs H1 σ p1 y p2 _ (n.go g1) e2 fun m H2 B2 s2 m2 => ?_
  have n2 := NewL.come m2.rep n.n0 n.nN n.rep.potN (DqA_up s2 _ _ g2)
  obtain ⟨zs, f1, f2⟩ := n2.is
  obtain ⟨ys, q1, q2⟩ := m2.is
  have hne : m ≠ l := fun z => m2.nN (.inr z)
  have m0 : F.H0 m = none := by
    have h := m2.n0
    have h : upd F.H0 l (.lst xs) m = none := h
    rw [upd_ne hne] at h; exact h
  refine ⟨_, _, rfl, k _ H2 B2 (s1.trans s2) ((n2.rep.setL i f1 f2 n2.nB n2.n0 n2.nN fun j es _ q => n2.nS j es q).setL j q1 q2 m2.nB m0 (fun z => m2.nN (.inl z)) fun jj es w q => ?_)⟩
  by_cases z : jj = i
  · subst z
    rw [List.getElem?_set_self]
    · intro e
      exact hne (by cases e; rfl)
    · have := n2.rep.len
      have h3 := (List.getElem?_eq_some_iff.mp q).1
      rw [List.length_set] at h3
      omega
  · rw [List.getElem?_set_ne (fun w => z w.symm)] at q ⊢
    exact m2.nS jj es q
end
end FL

namespace FL
open PySem PySem.Spec PyProof.Rows L2

/-! ### taking items out of a list of one's own -/
abbrev SP (π : Type) := Sg → π → Option (D × Sg × π)
def SemP {π : Type} (K : PySem.W.Frag) (Z : PotK π) (te : TE) (φ : SP π) : Prop :=
  ∀ (F : Fx) (B : Hp) (vs : L2.St) (H : Hp) (σ : Sg) (p : π) (d : D) (σ' : Sg) (p' : π) (Q : VK),
    Rep K Z F B vs H σ p → φ σ p = some (d, σ', p') →
    (∀ v H' B', Same B B' → Rep K Z F B' vs H' σ' p' → Dq K B' v d → Q v H') → te vs H Q
structure FP {π : Type} (S : Sta) (N : List Str) (sc : Scope) (Z : PotK π) (e : Expr) (φ : SP π) : Prop where
  ex : ∃ te, (∀ X, Fam1 S N sc X → PE X e te) ∧ SemP S.K Z te φ
theorem dropLast_eq {α : Type} : ∀ (l : List α), l.dropLast = l.take (l.length - 1) := fun l => List.dropLast_eq_take
theorem DqAll.dropLast {K : PySem.W.Frag} {B : Hp} {vs : List V} {ds : List D} (h : DqAll K B vs ds) : DqAll K B vs.dropLast ds.dropLast := by
  rw [List.dropLast_eq_take, List.dropLast_eq_take, DqAll.len h]
  exact h.cut _
theorem DqAll.erase {K : PySem.W.Frag} {B : Hp} : ∀ {vs : List V} {ds : List D} (k : Nat), DqAll K B vs ds → DqAll K B (vs.eraseIdx k) (ds.eraseIdx k)
  | _, _, 0, .nil => .nil
  | _, _, _ + 1, .nil => .nil
  | _, _, 0, .cons _ t => t
  | _, _, k + 1, .cons q t => .cons q (DqAll.erase k t)
section
variable {π : Type} {Z : PotK π} {S : Sta} {N : List Str} {sc : Scope} {e a b : Expr} {pos : Pos} {α : SE π} {ζ : SP π}
/-- x.pop() -/
def xPop (i : Nat) : SP π := fun σ p => match σ[i]? with
  | some (.own ds) => (ds[ds.length - 1]?).map fun d => (d, σ.set i (.own ds.dropLast), p)
  | _ => none
theorem fp_pop {x : Str} {q q2 q3 : Pos} (i : Nat) (hi : N[i]? = some x := by rfl)
    (hv : Vis sc x := by first | exact Or.inl rfl | exact Or.inr (Or.inl rfl) | exact Or.inr (Or.inr rfl))
    (hd : (x == ("__debug__" : Str)) = false := by decide) (hcd : (x == ("__classdict__" : Str)) = false := by decide)
    (hp : ∀ (X : Cx), PE X (.Name x q) (tVar i) → PE X (.Call (.Attribute (.Name x q) "pop" q2) [] [] q3) (tBM0 X.K "list" rPop (tVar i)) := by
      intro X hn; exact pe_bm0 PySem.F.plainAttrs_list PySem.F.slot_list_pop PySem.F.type_list_pop mt_pop hn) :
    FP S N sc Z (.Call (.Attribute (.Name x q) "pop" q2) [] [] q3) (xPop i) := by
  refine ⟨tBM0 S.K "list" rPop (tVar i), fun X hX => ?_, fun F B vs H σ p d σ' p' Q r e k => ?_⟩
  · have hn := var_at (q := q) hX.1 hi hv hd hcd
    have hK : X.K = S.K := by obtain ⟨⟨_, _, _, _, _, _, _, _, _, _, rfl⟩, _⟩ := hX; rfl
    rw [← hK]
    exact hp X hn
  · unfold xPop at e
    split at e
    case h_2 => cases e
    rename_i ds q
    obtain ⟨y, e1, e2⟩ := mpd e
    cases e2
    obtain ⟨c, xs, h1, h2, h3, h4, h5, h6⟩ := r.own i ds q
    obtain ⟨v, g1, g2⟩ := h3.has e1
    refine ⟨_, h1, .inl ⟨rfl, _, SqL.of h2⟩, _, _, v, rfl, rfl, h2, by rw [DqAll.len h3]; exact g1, ?_⟩
    exact k v _ B (Same.refl B) (r.write q h1 h3.dropLast) g2
/-- x.pop(e) -/
def xPopAt (i : Nat) (α : SE π) : SP π := fun σ p => (α σ p).bind fun x => match σ[i]?, x.1 with
  | some (.own ds), .int n => if -(2 ^ 63) ≤ n ∧ n < 2 ^ 63 then (ixN ds.length n).bind fun k => (ds[k]?).map fun d => (d, σ.set i (.own (ds.eraseIdx k)), x.2) else none
  | _, _ => none
theorem fp_popAt {x : Str} {q q2 q3 : Pos} (i : Nat) (h : FA S N sc Z [e] (aCons α aNil)) (hi : N[i]? = some x := by rfl)
    (hv : Vis sc x := by first | exact Or.inl rfl | exact Or.inr (Or.inl rfl) | exact Or.inr (Or.inr rfl))
    (hd : (x == ("__debug__" : Str)) = false := by decide) (hcd : (x == ("__classdict__" : Str)) = false := by decide)
    (hp : ∀ (X : Cx) (t : TA), PE X (.Name x q) (tVar i) → PA X [e] t → PE X (.Call (.Attribute (.Name x q) "pop" q2) [e] [] q3) (tBM X.K "list" rPopAt (tVar i) t) := by
      intro X t hn ht; exact pe_bm PySem.F.plainAttrs_list PySem.F.slot_list_pop PySem.F.type_list_pop mt_popAt hn ht) :
    FP S N sc Z (.Call (.Attribute (.Name x q) "pop" q2) [e] [] q3) (xPopAt i α) := by
  obtain ⟨t, a1, a2⟩ := h.ex
  refine ⟨tBM S.K "list" rPopAt (tVar i) t, fun X hX => ?_, fun F B vs H σ p d σ' p' Q r e k => ?_⟩
  · have hn := var_at (q := q) hX.1 hi hv hd hcd
    have hK : X.K = S.K := by obtain ⟨⟨_, _, _, _, _, _, _, _, _, _, rfl⟩, _⟩ := hX; rfl
    rw [← hK]
    exact hp X t hn (a1 X hX.1)
  · obtain ⟨⟨x, p1⟩, e1, e⟩ := bnd e
    cases q : σ[i]? with
    | none => rw [q] at e; cases e
    | some w =>
      rw [q] at e
      cases w with
      | own ds =>
        cases x with
        | int n =>
          have e : (if -(2 ^ 63) ≤ n ∧ n < 2 ^ 63 then (ixN ds.length n).bind fun k => (ds[k]?).map fun d => (d, σ.set i (Sl.own (ds.eraseIdx k)), p1) else none) = some (d, σ', p') := e
          split at e
          case isFalse => cases e
          rename_i hn
          obtain ⟨j, e2, e⟩ := bnd e
          obtain ⟨y, e3, e⟩ := mpd e
          cases e
          obtain ⟨c, xs, h1, h2, _⟩ := r.own i ds q
          refine ⟨_, h1, .inl ⟨rfl, _, SqL.of h2⟩, ?_⟩
          refine a2 F B vs H σ p [.int n] _ _ r (by unfold aCons; rw [e1]; rfl) fun ys H1 B1 s1 r1 d1 => ?_
          cases d1 with
          | cons dx dn =>
            cases dn
            cases dx
            obtain ⟨c', xs', g1, g2, g3, _⟩ := r1.own i ds q
            rw [h1] at g1
            cases g1
            obtain ⟨v, f1, f2⟩ := g3.has e3
            refine ⟨_, xs', n, j, v, rfl, rfl, g2, hn.1, hn.2, by rw [DqAll.len g3]; exact (ixN_seq e2).1, f1, ?_⟩
            exact k v _ B1 s1 (r1.write q h1 (g3.erase j)) f2
        | _ => cases e
      | _ => cases e
def sSetP (i : Nat) (ζ : SP π) : SS π := fun σ p => (ζ σ p).map fun x => .nx (x.2.1.set i (.val x.1)) x.2.2
theorem fs_setP {x : Str} {q : Pos} (i : Nat) (h : FP S N sc Z e ζ) (hi : N[i]? = some x := by rfl) (hx : Loc sc x := by first | exact Or.inl rfl | exact Or.inr rfl)
    (hs : InSc sc fun env => swapsWith e (some (.Name x q)) pos.line env = pure false := by intro env h; cases env; cases h; rfl) : FS S N sc Z (.Assign [.Name x q] e pos) (sSetP i ζ) := by
  obtain ⟨t, a1, a2⟩ := h.ex
  refine ⟨_, fun X hX => set_at hX hi hx (a1 X hX) (hs.at hX.1), fun F B vs H σ p o E r e k => ?_⟩
  obtain ⟨⟨d, σ1, p1⟩, e1, e2⟩ := mpd e
  cases e2
  exact a2 F B vs H σ p d σ1 p1 _ r e1 fun v H1 B1 s1 r1 d1 => k _ H1 B1 s1 (r1.set i d1)
def sAsgP (ζ : SP π) (τ : D → Sg → Option Sg) : SS π := fun σ p => (ζ σ p).bind fun x => (τ x.1 x.2.1).map fun σ1 => .nx σ1 x.2.2
theorem fs_asgP {tg : Expr} {τ : D → Sg → Option Sg} (he : FP S N sc Z e ζ) (hg : FG S N sc tg τ)
    (hs : InSc sc fun env => swapsWithSole [tg] e pos.line env = pure false := by intro env h; cases env; cases h; rfl)
    (hw : InSc sc fun env => swappedStores [tg] e env = pure none := by intro env h; cases env; cases h; rfl)
    (h1 : InSc sc fun env => (assignEach [tg] env).map (·.2) = [assign tg env] := by intro env h; rfl) : FS S N sc Z (.Assign [tg] e pos) (sAsgP ζ τ) := by
  obtain ⟨t, a1, a2⟩ := he.ex
  obtain ⟨g, b1, b2⟩ := hg.ex
  refine ⟨tAsg t g, fun X hX => ps_asg (a1 X hX) (b1 X hX) (hs.at hX.1) (hw.at hX.1) (h1.at hX.1), fun F B vs H σ p o E r q k => ?_⟩
  obtain ⟨⟨x, σ1, p1⟩, e1, q⟩ := bnd q
  obtain ⟨σ2, e2, q⟩ := mpd q
  cases q
  refine a2 F B vs H σ p x σ1 p1 _ r e1 fun v H1 B1 s1 r1 d1 => ?_
  exact b2 Z F B1 vs H1 σ1 p1 v x σ2 _ r1 d1 e2 fun vs' r2 => k vs' H1 B1 s1 r2
def sDropP (ζ : SP π) : SS π := fun σ p => (ζ σ p).map fun x => .nx x.2.1 x.2.2
theorem fs_dropP (h : FP S N sc Z e ζ) (hs : InSc sc fun env => swapsWith e none pos.line env = pure false := by intro env h; cases env; cases h; rfl) : FS S N sc Z (.Expr e pos) (sDropP ζ) := by
  obtain ⟨t, a1, a2⟩ := h.ex
  refine ⟨_, fun X hX => ps_expr (a1 X hX) (hs.at hX.1), fun F B vs H σ p o E r e h => ?_⟩
  obtain ⟨⟨d, σ1, p1⟩, e1, e2⟩ := mpd e
  cases e2
  exact a2 F B vs H σ p d σ1 p1 _ r e1 fun v H1 B1 s1 r1 d1 => h _ H1 B1 s1 r1
/-- x.append(y.pop(..)) -/
def sAppP (i : Nat) (ζ : SP π) : SS π := fun σ p => (ζ σ p).bind fun x => match σ[i]?, x.2.1[i]? with
  | some (.own _), some (.own ds) => if ds.length < sizeLine then some (.nx (x.2.1.set i (.own (ds ++ [x.1]))) x.2.2) else none
  | _, _ => none
theorem fs_appP {x : Str} {q q2 q3 : Pos} (i : Nat) (h : FP S N sc Z e ζ) (hse : ∀ X : Cx, starEach [e] X.env = (false, eval e X.env) :: starEach [] X.env := by intro _; rfl) (hi : N[i]? = some x := by rfl)
    (hv : Vis sc x := by first | exact Or.inl rfl | exact Or.inr (Or.inl rfl) | exact Or.inr (Or.inr rfl)) (hs : InSc sc fun env => swapsWith (.Call (.Attribute (.Name x q) "append" q2) [e] [] q3) none pos.line env = pure false := by intro env h; cases env; cases h; rfl)
    (hd : (x == ("__debug__" : Str)) = false := by decide) (hcd : (x == ("__classdict__" : Str)) = false := by decide)
    (hp : ∀ (X : Cx) (t : TA), PE X (.Name x q) (tVar i) → PA X [e] t → PE X (.Call (.Attribute (.Name x q) "append" q2) [e] [] q3) (tBM X.K "list" rAppend (tVar i) t) := by
      intro X t hn ht; exact pe_bm PySem.F.plainAttrs_list PySem.F.slot_list_append PySem.F.type_list_append mt_append hn ht) :
    FS S N sc Z (.Expr (.Call (.Attribute (.Name x q) "append" q2) [e] [] q3) pos) (sAppP i ζ) := by
  obtain ⟨t, a1, a2⟩ := h.ex
  refine ⟨tDrop (tBM S.K "list" rAppend (tVar i) (tCons t tNil)), fun X hX => ?_, fun F B vs H σ p o E r e k => ?_⟩
  · have hn := var_at (q := q) hX.1 hi hv hd hcd
    have ha := pa_cons (a1 X hX) pa_nil (hse X)
    have hs' := hs.at hX.1
    have hK : X.K = S.K := by obtain ⟨⟨_, _, _, _, _, _, _, _, _, _, rfl⟩, _⟩ := hX; rfl
    rw [← hK]
    exact ps_expr (hp _ _ hn ha) hs'
  obtain ⟨⟨d, σ1, p1⟩, e1, e⟩ := bnd e
  cases q : σ[i]? with
  | none => rw [q] at e; cases e
  | some w =>
    rw [q] at e
    cases w with
    | own es =>
      cases q' : σ1[i]? with
      | none => rw [show ((d, σ1, p1) : D × Sg × π).2.1 = σ1 from rfl, q'] at e; cases e
      | some w' =>
        rw [show ((d, σ1, p1) : D × Sg × π).2.1 = σ1 from rfl, q'] at e
        cases w' with
        | own ds =>
          have e : (if ds.length < sizeLine then some (Out.nx (σ1.set i (Sl.own (ds ++ [d]))) p1) else none) = some o := e
          split at e
          · rename_i hl
            cases e
            obtain ⟨c, xs, h1, h2, _⟩ := r.own i es q
            refine ⟨_, h1, .inl ⟨rfl, _, SqL.of h2⟩, ?_⟩
            refine a2 F B vs H σ p d σ1 p1 _ r e1 fun v H1 B1 s1 r1 d1 => ?_
            obtain ⟨c', xs', g1, g2, g3, _⟩ := r1.own i ds q'
            rw [h1] at g1
            cases g1
            refine ⟨_, _, _, rfl, rfl, g2, by rw [DqAll.len g3]; exact hl, ?_⟩
            exact k _ _ B1 s1 (r1.write q' h1 (DqAll.app g3 (.cons d1 .nil)))
          · cases e
        | _ => cases e
    | _ => cases e
end
end FL

namespace FL
open PySem PySem.Spec PyProof.Rows L2
open PySem.Sem (wp)

/-! ### enumerate(t), t a tuple -/
theorem meets_enum1 {v : Value} {o : Obj} {H : Heap → Prop} (B : Begins v o H) :
    Meets (Builtin.«enumerate.__new__» ⟨[.type "enumerate", v], []⟩) (fun _ R s => H s.heap ∧
      R (.ok (.ret (.ref (s.heap.push o).objs.size))) { s with heap := (s.heap.push o).push { cls := .type "enumerate", data := .fields #[.none, .bool false, .ref s.heap.objs.size, rawInt 0, .none, .none] } }) :=
  .of_wp fun prog w A R s h => by
    obtain ⟨hp, g, d, tk, os⟩ := s; obtain ⟨h1, h⟩ := h
    have hsub := sub_enumerate
    have q1 : ∀ {A' : Around} {E : Value → Shared → Prop} {Q : Value → Shared → Prop}, Q (.ref hp.objs.size) ⟨hp.push o, g, d, tk, os⟩ → wpAny (model prog w) A' (pyIter v) Q E ⟨hp, g, d, tk, os⟩ :=
      fun q => B.iter prog w _ _ ⟨hp, g, d, tk, os⟩ _ h1 q
    wp_walk using q1
    refine wpAny_stack_any fun st => wpAny_pure ?_
    split
    · rename_i c _ _ _ _ _
      cases (c == Value.type "enumerate")
      · wp_walk using q1
        exact ⟨_, rfl, h⟩
      · wp_walk using q1
        exact ⟨_, rfl, h⟩
    · wp_walk using q1
      exact ⟨_, rfl, h⟩
section
variable {prog : Program} {w : World} {A : Around} {E : Value → Shared → Prop} {s : Shared}
theorem enum_begins1 {v : Value} {o : Obj} {H : Heap → Prop} {Q : Value → Shared → Prop} (B : Begins v o H) (h1 : H s.heap)
    (h : ∀ h', IsEnum h' (s.heap.objs.size + 1) s.heap.objs.size 0 .none → h'.get? s.heap.objs.size = some o → h'.objs.size = s.heap.objs.size + 2 →
      (∀ b o, s.heap.get? b = some o → h'.get? b = some o) → Q (.ref (s.heap.objs.size + 1)) { s with heap := h' }) :
    wpAny (model prog w) A (call (.type "enumerate") [v]) Q E s := by
  refine callType_new F.called_enumerate (by decide) (F.typeCall_enumerate_1 _) (F.newCall_enumerate_1 _) (fun obj => F.args_object_init_2 obj _) F.entry_enumerate_new
    (meets_enum1 B) ⟨h1, ?_⟩
  have hz : (s.heap.push o).objs.size = s.heap.objs.size + 1 := Heap.size_push ..
  show _ ∧ _
  rw [hz]
  have he : IsEnum ((s.heap.push o).push { cls := .type "enumerate", data := .fields #[.none, .bool false, .ref s.heap.objs.size, rawInt 0, .none, .none] }) (s.heap.objs.size + 1) s.heap.objs.size 0 .none := by
    have := Heap.get?_push_size (s.heap.push o) (o := { cls := .type "enumerate", data := .fields #[.none, .bool false, .ref s.heap.objs.size, rawInt 0, .none, .none] }) rfl
    rw [hz] at this; exact this
  refine ⟨⟨_, he, rfl⟩, h _ he (Heap.get?_push_of_some _ (Heap.get?_push_size _ B.free)) (by rw [Heap.size_push, hz]) fun b o x => Heap.get?_push_of_some _ (Heap.get?_push_of_some _ x)⟩
theorem enumT_end {e it t : Addr} {i : Nat} {k : Int} {items : Array Value} {old : Value} {Q : Option Value → Shared → Prop} (hh : A.handled = none)
    (he : IsEnum s.heap e it k old) (hit : s.heap.IsTupleIter it t i) (ht : s.heap.IsTuple t items) (hx : items[i]? = none)
    (hQ : ∀ h', Heap.ExtBut it s.heap h' → Q none { s with heap := h' }) : wpAny (model prog w) A (pyNext (.ref e)) Q E s := by
  have hT : s.TypeIs (.ref e) "enumerate" := ⟨_, he, rfl⟩
  unfold pyNext
  refine wpAny_bind (wpAny_attempt (wpAny_callSpecial?_slot (name := Str.ofString "__next__") hT F.slot_enumerate_next
    (wpAny_call_entry F.slot_enumerate_next hT F.entry_enumerate_next ?_ (F.args_enumerate_next_1 _))))
  show wpAny _ _ (field (.ref e) 2 >>= _) _ _ _
  refine wpAny_bind (wpAny_field he rfl (x := .ref it) rfl ?_)
  refine wpAny_bind (wpAny_nextOf_tuple_end hh hit ht hx fun h' x he' hx' => ?_)
  obtain ⟨o, ho, hc⟩ := hx'
  refine wpAny_bind (wpAny_isInstance (T := "StopIteration") (b := true) ⟨o, ho, hc⟩ isSubtype_stop ?_)
  exact wpAny_pure (hQ _ he')
end
def IteT (K : PySem.W.Frag) (a : Addr) : It :=
  ⟨fun i H => ∃ (xs : List V) (x : V), SqT K H a xs ∧ xs[i]? = some x, fun i H v H' => ∃ T x, v = .ref T ∧ H T = none ∧ H' = upd H T (.tup [.int (i : Nat), x]) ∧ ∀ xs, SqT K H a xs → xs[i]? = some x, fun i H => ∃ xs : List V, SqT K H a xs ∧ xs.length ≤ i⟩
theorem turn_enumT {P : Program} {w : World} {K : PySem.W.Frag} {elts : List Expr} {kk : Nat} {tpos : Pos} (a e it : Addr) (hea : e ≠ a) (hia : a ≠ it) :
    Turn P w K (.Tuple elts kk tpos) (IteT K a) [e, it] e (fun i h => (∃ old, IsEnum h e it ((i : Nat) : Int) old) ∧ h.IsTupleIter it a i ∧ e ≠ it) where
  mem := by simp
  obj := fun i h st b hb => by
    obtain ⟨⟨old, he⟩, ⟨o, ho, hc, hd⟩, _⟩ := st
    have e' : b = e ∨ b = it := by simpa using hb
    rcases e' with z | z
    · rw [z]; exact ⟨_, he, fun v q => nomatch q⟩
    · rw [z]; exact ⟨o, ho, fun v q => by rw [hd] at q; cases q⟩
  keep := fun i h h' st k => let ⟨⟨old, he⟩, hi, hne⟩ := st; ⟨⟨old, k e (by simp) _ he⟩, hi.at fun o q => k it (by simp) o q, hne⟩
  item := by
    intro X hP hw hK hc i pins s σ H E I hf st hg
    subst hP hw hK
    obtain ⟨⟨old, he⟩, hit, hne⟩ := st
    obtain ⟨xs, x, hq, hx⟩ := hg
    obtain ⟨its, rv, p, hz⟩ := I.tuple hq
    obtain ⟨u, hu, ru⟩ := rv.get hx
    have hel : e < s.heap.objs.size := Heap.lt_size he
    have hil : it < s.heap.objs.size := by obtain ⟨_, q, _⟩ := hit; exact Heap.lt_size q
    have hlt : i < its.toArray.size := by
      have := (List.getElem?_eq_some_iff.mp hu).1
      simpa using this
    refine wpAny_pyNext_enum_itemD (Draws.tuple (prog := X.prog) (w := X.w) (A := X.A.in1) (show X.A.in1.handled = none from I.ok.hd hc) it a hia its.toArray) he ⟨hit, p⟩ hlt hne (by simp [hne, hea]) fun x' h' tk hP ho st' hT hsz hk => ?_
    obtain rfl : x' = u := by
      have hP : its.toArray[i]? = some x' := hP
      have : its[i]? = some x' := by simpa using hP
      rw [hu] at this; exact (Option.some.inj this).symm
    obtain ⟨hit', _⟩ := st'
    refine ⟨_, rfl, wpAny_letOwnedTupleGo_enum (s := { s with heap := h', toks := tk + 1 }) ho fun h'' he' sb => ?_⟩
    have hT2 : h''.get? s.heap.objs.size = some { cls := .type "tuple", data := .seq #[.int i tk, x'] } := (sb.2 _ (Nat.ne_of_gt hel)).trans hT
    have new : ObjOk X.prog X.w (upd H s.heap.objs.size (.tup [.int (i : Nat), x])) h'' s.heap.objs.size (.tup [.int (i : Nat), x]) :=
      ⟨by show 2 ≤ sizeLine; decide, [.int i tk, x'], .cons ⟨_, rfl⟩ (.cons ru .nil), ⟨_, hT2, rfl, _, rfl⟩⟩
    have I1 : Inv X pins σ (upd H s.heap.objs.size (.tup [.int (i : Nat), x])) { s with heap := h'', toks := tk + 1 } :=
      I.turnedNew (ch := [e, it]) (fun b ob hb q => (sb.2 b (fun z => hb (by simp [z]))).trans (hk b ob (fun z => hb (by simp [z])) (fun z => hb (by simp [z])) q)) hf (Nat.le_refl _) new
    refine ⟨.ref s.heap.objs.size, _, I1, rfl, ⟨_, x, rfl, I.hok.fresh (Nat.le_refl _), rfl, fun ys hy => by rw [I.tuple_inj hy hq]; exact hx⟩, ⟨⟨x', ?_⟩, hit'.at fun o q => (sb.2 it (Ne.symm hne)).trans q, hne⟩, fun b hb => ?_⟩
    · have e1 : ((i + 1 : Nat) : Int) = (i : Int) + 1 := by omega
      rw [e1]; exact he'
    · have hb' : b < s.heap.objs.size := by
        have e' : b = e ∨ b = it := by simpa using hb
        rcases e' with z | z
        · rw [z]; exact hel
        · rw [z]; exact hil
      rw [upd_ne (Nat.ne_of_lt hb')]
      exact (hf b hb).1
  done := by
    intro X hP hw hK hc i pins s σ H E I hf st hg
    subst hP hw hK
    obtain ⟨⟨old, he⟩, hit, hne⟩ := st
    obtain ⟨xs, hq, hx⟩ := hg
    obtain ⟨its, rv, p, hz⟩ := I.tuple hq
    obtain ⟨f0, f1, f2, f3, f4, f5⟩ := hf it (by simp)
    have hl := rv.length
    exact enumT_end (I.ok.hd hc) he hit p (by simp; omega) fun h' eb => ⟨rfl, I.turned (t' := s.toks) (fun b o hb q => eb b o hb q) f0 f1 f3 f4 f5⟩
  self := fun A i s Q E st h => let ⟨⟨_, he⟩, _⟩ := st; wpAny_pyIter_enum he h
def iEnumA (K : PySem.W.Frag) (ta : TA) : TI := fun σ H R => ta σ H fun vs H1 => ∃ a xs, vs = [.ref a] ∧ ((SqL K H1 a xs ∧ R (Ite K a) H1) ∨ (SqT K H1 a xs ∧ R (IteT K a) H1))
theorem pi_enumA {X : Cx} {e : Expr} {ta : TA} {p pos tpos : Pos} {elts : List Expr} {kk : Nat} (hg : Gl X "enumerate") (hm : X.mg "enumerate" = none) (ha : PA X [e] ta) (hs : starEach [e] X.env = [(false, eval e X.env)] := by rfl) :
    PI X (.Tuple elts kk tpos) (.Call (.Name "enumerate" p) [e] [] pos) (iEnumA X.K ta) := by
  refine ⟨fun pins s σ H R I h => ?_⟩
  refine Call_ (ld_blt I hg hm boot_enumerate (PyProof.Rows.callWith_type1 (thn (ha.run pos pins s σ H _ I h) fun us s1 ⟨vs, H1, I1, r1, q1⟩ => ?_) hs rfl))
  obtain ⟨a, xs, ex, q1⟩ := q1
  subst ex
  cases r1 with
  | cons r rr =>
    cases rr
    cases r
    have fpk : ∀ b ∈ [s1.heap.objs.size + 1, s1.heap.objs.size], s1.heap.objs.size ≤ b := fun b hb => by
      have e' : b = s1.heap.objs.size + 1 ∨ b = s1.heap.objs.size := by simpa using hb
      rcases e' with z | z
      · rw [z]; exact Nat.le_add_right _ _
      · rw [z]; exact Nat.le_refl _
    rcases q1 with ⟨hq, q⟩ | ⟨hq, q⟩
    · obtain ⟨its, rv, p', hz⟩ := I1.list hq
      refine call_enumerate_list p'.isList fun h' he hit hsz hk => wpAny_pyIter_enum he ?_
      have I2 : Inv X pins σ H1 { s1 with heap := h' } := I1.kept (t' := s1.toks) hk
      exact ⟨s1.heap.objs.size + 1, [s1.heap.objs.size + 1, s1.heap.objs.size], _, _, H1, rfl, I2, turn_enum a (s1.heap.objs.size + 1) s1.heap.objs.size, ⟨⟨.none, he⟩, hit, Nat.succ_ne_self _⟩, fun b hb => I1.fpOk (fpk b hb) (I1.hok.fresh (fpk b hb)), q⟩
    · obtain ⟨its, rv, p', hz⟩ := I1.tuple hq
      have hal : a < s1.heap.objs.size := by obtain ⟨_, q, _⟩ := p'; exact Heap.lt_size q
      refine enum_begins1 (begins_tuple a its.toArray) p' fun h' he hit hsz hk => wpAny_pyIter_enum he ?_
      have I2 : Inv X pins σ H1 { s1 with heap := h' } := I1.kept (t' := s1.toks) hk
      exact ⟨s1.heap.objs.size + 1, [s1.heap.objs.size + 1, s1.heap.objs.size], _, _, H1, rfl, I2, turn_enumT a (s1.heap.objs.size + 1) s1.heap.objs.size (Nat.ne_of_gt (Nat.lt_succ_of_lt hal)) (Nat.ne_of_lt hal), ⟨⟨.none, he⟩, ⟨_, hit, rfl, rfl⟩, Nat.succ_ne_self _⟩, fun b hb => I1.fpOk (fpk b hb) (I1.hok.fresh (fpk b hb)), q⟩
def enumFA : List D → Option (List D)
  | [.list ds] => some (enumL 0 ds)
  | [.tuple ds] => some (enumL 0 ds)
  | _ => none
theorem it_enumT {K : PySem.W.Frag} {B : Hp} {a : Addr} {xs : List V} {ds : List D} (h : SqT K B a xs) (hd : DqAll K B xs ds) : ItOk K (IteT K a) B (enumL 0 ds) where
  stop := fun i H s hi => have hi := Nat.le_of_eq hi; ⟨xs, sq_t s h, by rw [DqAll.len hd]; rw [enumL_len] at hi; exact hi⟩
  go := fun i H s hi => by
    have hx : i < xs.length := by rw [DqAll.len hd]; rw [enumL_len] at hi; exact hi
    exact ⟨xs, xs[i], sq_t s h, List.getElem?_eq_getElem hx⟩
  yld := fun i H x H' d s y e B2 s1 s2 => by
    obtain ⟨T, w, e1, hT, e2, y⟩ := y
    subst e1 e2
    obtain ⟨d', g1, g2⟩ := enumL_get 0 ds i d e
    subst g2
    have gr : Gr B2 H (upd B2 T (.tup [.int (i : Nat), w])) (upd H T (.tup [.int (i : Nat), w])) := Gr.new s2 hT
    refine ⟨_, gr, .tup (SqT.of upd_same) (.cons ?_ (.cons (Dq_up (s1.trans gr.b) d' w (DqAll.at hd (y xs (sq_t s h)) g1)) .nil))⟩
    rw [Nat.zero_add]
    exact .int _
theorem vi_enumA {K : PySem.W.Frag} : ValI K (fun vs H1 R => ∃ a xs, vs = [.ref a] ∧ ((SqL K H1 a xs ∧ R (Ite K a) H1) ∨ (SqT K H1 a xs ∧ R (IteT K a) H1))) enumFA := by
  intro B H xs ds z R s hd e k
  cases hd with
  | nil => cases e
  | cons dx dn =>
    cases dx with
    | lst h1 h2 =>
      cases dn with
      | nil =>
        cases e
        exact ⟨_, _, rfl, .inl ⟨SqL.of (s _ _ h1), k _ (it_enum h1 h2)⟩⟩
      | cons _ _ => cases e
    | tup h1 h2 =>
      cases dn with
      | nil =>
        cases e
        exact ⟨_, _, rfl, .inr ⟨sq_t s h1, k _ (it_enumT h1 h2)⟩⟩
      | cons _ _ => cases e
    | _ => cases e
section
variable {π : Type} {Z : PotK π} {S : Sta} {N : List Str} {sc : Scope} {a : Expr} {ω : SL π} {elts : List Expr} {kk : Nat} {tpos q1 pos : Pos}
theorem fi_enumA (hg : Gb sc "enumerate") (hm : S.mg "enumerate" = none) (ha : FA S N sc Z [a] ω) (hs : ∀ X : Cx, starEach [a] X.env = [(false, eval a X.env)] := by intro _; rfl) : FI S N sc Z (.Tuple elts kk tpos) (.Call (.Name "enumerate" q1) [a] [] pos) (iBy enumFA ω) := by
  obtain ⟨t, a1, a2⟩ := ha.ex
  refine ⟨iEnumA S.K t, fun X hX => ?_, sem_iby vi_enumA a2⟩
  have hp := a1 X hX
  have g1 := gl_of hX hg
  have g2 := mg_of hX
  obtain ⟨_, s0, H0, env, outer, stack, ex, fn, pn, hs', hx⟩ := hX
  subst hx
  exact pi_enumA g1 (by rw [g2]; exact hm) hp (hs _)
end
end FL

namespace FL
open PySem PySem.Spec PyProof.Rows L2

/-! ### isinstance(e, T), T a built-in class -/
def tyD : D → String
  | .none => "NoneType"
  | .bool _ => "bool"
  | .int _ => "int"
  | .str _ => "str"
  | .list _ => "list"
  | .tuple _ => "tuple"
  | .dict _ => "dict"
theorem tyX_of {K : PySem.W.Frag} {B H : Hp} {v : V} {d : D} (s : Same B H) (h : Dq K B v d) : TyX K H v (.type (tyD d)) := by
  cases h with
  | non => exact .base .non
  | bl b => exact .base (.bl b)
  | int i => exact .base (.int i)
  | str x => exact .base (.str x)
  | lst h1 _ => exact .base (.lst (s _ _ h1))
  | dct h1 _ => exact .base (.dK (s _ _ h1))
  | tup h1 _ =>
    rcases h1 with (h1 | ⟨o, h1⟩) | ⟨o, its, n, h1, h2, _⟩
    · exact .base (.tup (s _ _ h1))
    · exact .fTuple (s _ _ h1)
    · exact .kTuple h1 h2
def fIsi (c : String) (d : D) : Option D := (kitB (tyD d) c).map .bool
section
variable {π : Type} {Z : PotK π} {S : Sta} {N : List Str} {sc : Scope} {e a b c : Expr} {es : List Expr} {pos q1 q2 q3 : Pos} {α β γ : SE π} {φ : SB π} {ω : SL π}
theorem fe_isi {x : Str} {c : String} (hm : S.mg "isinstance" = none) (hmc : S.mg x = none) (ha : FE S N sc Z e α) (hb : bootBuiltins x = some (.type c) := by decide +kernel) (hg : Gb sc "isinstance" := by rfl) (hgc : Gb sc x := by rfl) (hn : x ≠ "__name__" := by decide) (hd : (x == ("__debug__" : Str)) = false := by decide)
    (he : ∀ X : Cx, starEach [e, .Name x q2] X.env = (false, eval e X.env) :: starEach [.Name x q2] X.env := by intro _; rfl) (he2 : ∀ X : Cx, starEach [.Name x q2] X.env = (false, eval (.Name x q2) X.env) :: starEach [] X.env := by intro _; rfl)
    (hpl : ∀ X : Cx, (backTo pos (starEach [.Name x q2] X.env)).any (·.1) = false := by intro _; rfl) :
    FE S N sc Z (.Call (.Name "isinstance" q1) [e, .Name x q2] [] pos) (xUn (fIsi c) α) := by
  obtain ⟨t, a1, a2⟩ := ha.ex
  refine ⟨tCB (rIsi S.K) (tCons t (tCons (tC (.ty c)) tNil)), fun X hX => ?_, fun F B vs H σ p d p' Q r q k => ?_⟩
  · have hK : X.K = S.K := K_fam hX
    rw [← hK]
    refine pe_callB call_isi (gl_of hX hg) (by rw [mg_of hX]; exact hm) (by decide +kernel) (pa_cons (a1 X hX) (pa_cons (pe_bltn (gl_of hX hgc) (by rw [mg_of hX]; exact hmc) hb rfl hn hd) pa_nil (he2 X)) (he X)) (by decide) (by decide) (he X) (hpl X)
  · obtain ⟨⟨y, p1⟩, e1, q⟩ := bnd q
    obtain ⟨z, e2, q⟩ := mpd q
    cases q
    obtain ⟨b, e3, e4⟩ := mpd e2
    cases e4
    refine a2 F B vs H σ p y p1 _ r e1 fun v H1 B1 s1 r1 d1 => ?_
    exact ⟨v, .ty c, .type (tyD y), .type c, b, rfl, .ty c, tyX_of r1.sub d1, kit_ty e3, k _ H1 B1 s1 r1 (.bl b)⟩

/-! ### a < b < c -/
structure CmpF (S : Sta) (N : List Str) (sc : Scope) (op : CmpOp) (f : D → D → Option D) : Prop where
  ex : ∃ r : R2, (∀ X, Fam S N sc X → OpR X (compareOp op) r) ∧ Val2 S.K r f
theorem u_lt (hu : S.A.units + 70 < cLine) : CmpF S N sc .Lt fLt := ⟨_, up2 fun X hA _ => o_lt (by rw [hA]; omega), v_O2⟩
theorem u_le (hu : S.A.units + 70 < cLine) : CmpF S N sc .LtE fLe := ⟨_, up2 fun X hA _ => o_le (by rw [hA]; omega), v_O2⟩
theorem u_gt (hu : S.A.units + 70 < cLine) : CmpF S N sc .Gt fGt := ⟨_, up2 fun X hA _ => o_gt (by rw [hA]; omega), v_O2⟩
theorem u_ge (hu : S.A.units + 70 < cLine) : CmpF S N sc .GtE fGe := ⟨_, up2 fun X hA _ => o_ge (by rw [hA]; omega), v_O2⟩
theorem u_eq (hu : S.A.units + 70 < cLine) : CmpF S N sc .Eq fEq := ⟨_, up2 fun X hA _ => o_eq (by rw [hA]; omega), v_O2⟩
theorem sem_chain {K : PySem.W.Frag} {r r' : R2} {f g : D → D → Option D} {ta tb tc : TE} (hf : Val2 K r f) (hg : Val2 K r' g) (ha : SemE K Z ta α) (hb : SemE K Z tb β) (hc : SemE K Z tc γ) : SemE K Z (tChain r r' ta tb tc) (xChain f g α β γ) := by
  intro F B vs H σ p d p' Q rp q k
  obtain ⟨⟨x, p1⟩, e1, q⟩ := bnd q
  obtain ⟨⟨y, p2⟩, e2, q⟩ := bnd q
  obtain ⟨c, e3, q⟩ := bnd q
  refine ha F B vs H σ p x p1 _ rp e1 fun v H1 B1 s1 r1 d1 => ?_
  refine hb F B1 vs H1 σ p1 y p2 _ r1 e2 fun u H2 B2 s2 r2 d2 => ?_
  refine hf B2 H2 v u x y c _ r2.sub (Dq_up s2 x v d1) d2 e3 fun w H3 B3 gr dw => ?_
  cases c with
  | bool b =>
    cases dw
    refine ⟨b, rfl, ?_⟩
    cases b with
    | true =>
      obtain ⟨⟨z, p3⟩, e4, q⟩ := bnd q
      obtain ⟨w, e5, q⟩ := mpd q
      cases q
      rw [if_pos rfl]
      refine hc F B3 vs H3 σ p2 z p3 _ (r2.grow gr) e4 fun t H4 B4 s4 r4 d4 => ?_
      exact hg B4 H4 u t y z _ Q r4.sub (Dq_up (gr.b.trans s4) y u d2) d4 e5 fun w' H5 B5 gr5 dw => k w' H5 B5 ((((s1.trans s2).trans gr.b).trans s4).trans gr5.b) (r4.grow gr5) dw
    | false =>
      cases q
      rw [if_neg Bool.false_ne_true]
      exact k _ H3 B3 ((s1.trans s2).trans gr.b) (r2.grow gr) (.bl false)
  | _ => cases q
theorem fe_chain {op op' : CmpOp} {f g : D → D → Option D} (hf : CmpF S N sc op f) (hg : CmpF S N sc op' g) (ha : FE S N sc Z a α) (hb : FE S N sc Z b β) (hc : FE S N sc Z c γ) (hm : lastMarks [op, op'] [b, c] = false := by with_unfolding_all rfl) :
    FE S N sc Z (.Compare a [op, op'] [b, c] pos) (xChain f g α β γ) := by
  obtain ⟨r, f1, f2⟩ := hf.ex
  obtain ⟨r', g1, g2⟩ := hg.ex
  obtain ⟨ta, a1, a2⟩ := ha.ex
  obtain ⟨tb, b1, b2⟩ := hb.ex
  obtain ⟨tc, c1, c2⟩ := hc.ex
  exact ⟨_, fun X hX => pe_chain (f1 X hX) (g1 X hX) (a1 X hX) (b1 X hX) (c1 X hX) hm, sem_chain f2 g2 a2 b2 c2⟩
theorem ft_chain {op op' : CmpOp} {f g : D → D → Option D} (hf : CmpF S N sc op f) (hg : CmpF S N sc op' g) (ha : FE S N sc Z a α) (hb : FE S N sc Z b β) (hc : FE S N sc Z c γ) (hm : lastMarks [op, op'] [b, c] = false := by with_unfolding_all rfl) :
    FT S N sc Z (.Compare a [op, op'] [b, c] pos) (xTest (xChain f g α β γ)) := by
  obtain ⟨r, f1, f2⟩ := hf.ex
  obtain ⟨r', g1, g2⟩ := hg.ex
  obtain ⟨ta, a1, a2⟩ := ha.ex
  obtain ⟨tb, b1, b2⟩ := hb.ex
  obtain ⟨tc, c1, c2⟩ := hc.ex
  refine ⟨_, fun X hX => pt_chain (f1 X hX) (g1 X hX) (a1 X hX) (b1 X hX) (c1 X hX) hm, fun F B vs H σ p d p' Q rp q k => ?_⟩
  obtain ⟨⟨x, p1⟩, e1, q⟩ := bnd q
  refine sem_chain f2 g2 a2 b2 c2 F B vs H σ p x p1 _ rp e1 fun v H1 B1 s1 r1 d1 => ?_
  cases x with
  | bool w =>
    cases q
    cases d1
    exact ⟨_, rfl, k H1 B1 s1 r1⟩
  | _ => cases q

/-! ### x[i] = e, x a list of one's own -/
def sPut (i : Nat) (β α : SE π) : SS π := fun σ p => (α σ p).bind fun x => (β σ x.2).bind fun y => match σ[i]?, y.1 with
  | some (.own ds), .int k => (ixN ds.length k).map fun j => .nx (σ.set i (.own (ds.set j x.1))) y.2
  | _, _ => none
theorem fs_put {x : Str} {i' : Expr} (i : Nat) (hb : FE S N sc Z i' β) (ha : FE S N sc Z e α) (hi : N[i]? = some x := by rfl)
    (hv : Vis sc x := by first | exact Or.inl rfl | exact Or.inr (Or.inl rfl) | exact Or.inr (Or.inr rfl)) (hd : (x == ("__debug__" : Str)) = false := by decide) (hcd : (x == ("__classdict__" : Str)) = false := by decide)
    (hs : InSc sc fun env => swapsWithSole [.Subscript (.Name x q1) i' q2] e pos.line env = pure false := by intro env h; cases env; cases h; rfl)
    (hw : InSc sc fun env => swappedStores [.Subscript (.Name x q1) i' q2] e env = pure none := by intro env h; cases env; cases h; rfl)
    (h1 : InSc sc fun env => (assignEach [.Subscript (.Name x q1) i' q2] env).map (·.2) = [assign (.Subscript (.Name x q1) i' q2) env] := by intro env h; rfl)
    (hA : ∀ (env : Env) (v : Value), assign (.Subscript (.Name x q1) i' q2) env v = (do
      let ov ← holding [v] (eval (.Name x q1) env)
      let iv ← holding [v, ov] (eval i' env)
      standAt q2
      holding [v, ov, iv] (setItem ov iv v)
      release [v, ov, iv] []) := by intro _ _; rfl) :
    FS S N sc Z (.Assign [.Subscript (.Name x q1) i' q2] e pos) (sPut i β α) := by
  obtain ⟨ta, a1, a2⟩ := ha.ex
  obtain ⟨tb, b1, b2⟩ := hb.ex
  refine ⟨tAsg ta (gSub (tVar i) tb rSetL), fun X hX => ps_asg (a1 X hX.1) (pg_sub (var_at hX.1 hi hv hd hcd) (b1 X hX.1) set_list (hA X.env)) (hs.at hX.1) (hw.at hX.1) (h1.at hX.1), fun F B vs H σ p o E r q k => ?_⟩
  obtain ⟨⟨x, p1⟩, e1, q⟩ := bnd q
  obtain ⟨⟨y, p2⟩, e2, q⟩ := bnd q
  cases hq : σ[i]? with
  | none => rw [hq] at q; cases q
  | some w =>
    rw [hq] at q
    cases w with
    | own ds =>
      cases y with
      | int n =>
        obtain ⟨j, e3, q⟩ := mpd q
        cases q
        refine a2 F B vs H σ p x p1 _ r e1 fun v H1 B1 s1 r1 d1 => ?_
        obtain ⟨c, xs, g1, _⟩ := r1.own i ds hq
        refine ⟨_, g1, ?_⟩
        refine b2 F B1 vs H1 σ p1 (.int n) _ _ r1 e2 fun u H2 B2 s2 r2 d2 => ?_
        cases d2
        obtain ⟨c', ys, f1, f2, f3, _⟩ := r2.own i ds hq
        rw [g1] at f1
        cases f1
        refine ⟨_, ys, n, j, rfl, rfl, f2, by rw [DqAll.len f3]; exact e3, ?_⟩
        exact k _ _ B2 (s1.trans s2) (r2.write hq g1 (f3.put (Dq_up s2 _ _ d1) j))
      | _ => cases q
    | _ => cases q

/-! ### sorted(e), e a list of ints -/
theorem sorted_unique : ∀ (l m : List Int), l.Perm m → l.Pairwise (· ≤ ·) → m.Pairwise (· ≤ ·) → l = m
  | [], m, h, _, _ => (h.symm.eq_nil).symm
  | x :: r, [], h, _, _ => absurd h.length_eq (by simp)
  | x :: r, y :: s, h, hl, hm => by
    rw [List.pairwise_cons] at hl hm
    have hx : x ∈ y :: s := h.subset List.mem_cons_self
    have hy : y ∈ x :: r := h.symm.subset List.mem_cons_self
    have e : x = y := by
      rcases List.mem_cons.mp hx with e | hx
      · exact e
      · rcases List.mem_cons.mp hy with e | hy
        · exact e.symm
        · have h1 := hm.1 x hx
          have h2 := hl.1 y hy
          omega
    subst e
    rw [sorted_unique r s (List.Perm.cons_inv h) hl.2 hm.2]
def fSorted : List D → Option (List D)
  | [.list ds] => (intsOf ds).map fun ns => (ns.mergeSort fun a b => decide (a ≤ b)).map .int
  | _ => none
theorem sortI_pw (ns : List Int) : (ns.mergeSort fun a b => decide (a ≤ b)).Pairwise (· ≤ ·) := by
  have := List.pairwise_mergeSort (le := fun a b : Int => decide (a ≤ b)) (fun a b c h1 h2 => by simp only [decide_eq_true_eq] at *; omega) (fun a b => by simp only [Bool.or_eq_true, decide_eq_true_eq]; omega) ns
  exact this.imp fun h => by simpa using h
theorem c_sorted {X : Cx} : CallR X (.builtin "sorted") (ONL X.K fSorted) := by
  intro pins s σ H xs us Q I r ⟨B, ds, z, sb, hx, hf, k⟩
  refine cr_sortedI pins s σ H xs us Q I r ?_
  unfold fSorted at hf
  split at hf
  · rename_i ds
    obtain ⟨ns, e1, e2⟩ := mpd hf
    have e1 := ints_of e1
    subst e1 e2
    cases hx with
    | cons h1 h2 =>
      cases h2
      cases h1 with
      | lst g1 g2 =>
        have e := vals_int g2
        subst e
        refine ⟨_, ns, rfl, SqL.of (sb _ _ g1), fun ns' p hp hw hn => ?_⟩
        have e : ns' = ns.mergeSort fun a b => decide (a ≤ b) := sorted_unique _ _ (hp.trans (List.mergeSort_perm ns _).symm) hw (sortI_pw ns)
        subst e
        refine k _ _ _ B (Gr.lay sb hn) hn (sb.free hn) upd_same ?_
        generalize (ns.mergeSort fun a b => decide (a ≤ b)) = l
        induction l with
        | nil => exact .nil
        | cons a r ih => exact .cons (.int a) ih
  · cases hf
theorem fl_sorted (hm : S.mg "sorted" = none) (ha : FA S N sc Z (e :: es) ω) (hg : Gb sc "sorted" := by rfl)
    (he : ∀ X : Cx, starEach (e :: es) X.env = (false, eval e X.env) :: starEach es X.env := by intro _; rfl) (hpl : ∀ X : Cx, (backTo pos (starEach es X.env)).any (·.1) = false := by intro _; rfl) :
    FL S N sc Z (.Call (.Name "sorted" q1) (e :: es) [] pos) (lCall fSorted ω) := fl_callB (upNL fun X hA hc => c_sorted) v_ONL hg hm (by decide +kernel) ha (by decide) (by decide) he hpl
end
end FL

namespace FL
open PySem PySem.Spec PyProof.Rows L2
open AutoSeq1 (wpAny_loadPart')

/-! ### t * k: t itself, nothing -/
theorem tuple_mulSame (l : Addr) (items : Array Value) (n : Nat) (dd : Option Addr) (sl : Array (Option Value)) (x : Int) (u : Tok) (c0 : (decide (x < -(2 ^ 63)) || decide (x ≥ 2 ^ 63)) = false) (c1 : (items.isEmpty || x == 1) = true) :
    Meets (Builtin.«tuple.__mul__» ⟨[.ref l, .int x u], []⟩) (fun _ R s => s.heap.get? l = some { cls := .type "tuple", dict := dd, data := .seq items n, slots := sl } ∧ R (.ok (.ret (Value.ref l))) s) :=
  .of_wp fun prog w A R s h => by
    obtain ⟨hp, g, d, tk, os⟩ := s
    obtain ⟨hl, h⟩ := h
    have f1 := AutoSeq1.idx_int
    wp_walk using wpAny_loadPart' hl
    repeat (first
      | (refine wpAny_ite_false (decide_eq_false (by rw [c0]; exact Bool.false_ne_true)) ?_; wp_walk using wpAny_loadPart' hl)
      | (refine wpAny_ite_true (decide_eq_true c1) ?_; wp_walk using wpAny_loadPart' hl))
    exact ⟨_, rfl, h⟩
theorem tuple_mulNone (l : Addr) (items : Array Value) (n : Nat) (dd : Option Addr) (sl : Array (Option Value)) (x : Int) (u : Tok) (c0 : (decide (x < -(2 ^ 63)) || decide (x ≥ 2 ^ 63)) = false) (c1 : (items.isEmpty || x == 1) = false) (c2 : (decide (x ≤ 0) || items.isEmpty) = true) :
    Meets (Builtin.«tuple.__mul__» ⟨[.ref l, .int x u], []⟩) (fun _ R s => s.heap.get? l = some { cls := .type "tuple", dict := dd, data := .seq items n, slots := sl } ∧
      R (.ok (.ret (Value.ref s.heap.objs.size))) { s with heap := s.heap.push { cls := Value.type "tuple", data := Data.seq #[] }, toks := s.toks }) :=
  .of_wp fun prog w A R s h => by
    obtain ⟨hp, g, d, tk, os⟩ := s
    obtain ⟨hl, h⟩ := h
    have f1 := AutoSeq1.idx_int
    wp_walk using wpAny_loadPart' hl
    repeat (first
      | (refine wpAny_ite_false (decide_eq_false (by rw [c0]; exact Bool.false_ne_true)) ?_; wp_walk using wpAny_loadPart' hl)
      | (refine wpAny_ite_false (decide_eq_false (by rw [c1]; exact Bool.false_ne_true)) ?_; wp_walk using wpAny_loadPart' hl)
      | (refine wpAny_ite_true (decide_eq_true c2) ?_; wp_walk using wpAny_loadPart' hl))
    exact ⟨_, rfl, h⟩

def rRepS (K : PySem.W.Frag) : R2 := fun x y H Q => ∃ l k xs, x = .ref l ∧ y = .int k ∧ SqT K H l xs ∧ k < 2 ^ 63 ∧ -(2 ^ 63) ≤ k ∧ ((xs = [] ∨ k = 1) ∧ Q (.ref l) H ∨ xs ≠ [] ∧ k ≤ 0 ∧ ∀ p, H p = none → Q (.ref p) (upd H p (.tup [])))
theorem op_repS {X : Cx} : OpR X (binaryOp .Mult) (rRepS X.K) := by
  intro pins s σ H x y v u Q I rx ry h
  obtain ⟨l, k, xs, rfl, rfl, hT, h1, h2, q⟩ := h
  cases rx
  obtain ⟨t, rfl⟩ := ry
  obtain ⟨its, r, ⟨⟨cls, dd, data, sl⟩, ho, hc, n, hd⟩, hs⟩ := I.tuple hT
  simp only at hc hd
  subst hc hd
  have hle : its.length = xs.length := r.length.symm
  have c0 : (decide (k < -(2 ^ 63)) || decide (k ≥ 2 ^ 63)) = false := by
    rw [decide_eq_false (by omega), decide_eq_false (by omega)] <;> rfl
  have he : its.toArray.isEmpty = xs.isEmpty := by
    cases its <;> cases xs <;> first | rfl | simp at hle
  rcases q with ⟨hz, q⟩ | ⟨hn, hk, q⟩
  · have c1 : (its.toArray.isEmpty || k == 1) = true := by
      rw [he]
      rcases hz with e | e
      · rw [e]; rfl
      · rw [e]; simp
    exact wpAny_binaryOp_repeat_ref (T := "tuple") (U := "int") (by decide) ⟨_, ho, rfl⟩ (fun s' => typeIs_int s' k t) noFill_tuple_mul F.fills_int_mul F.slot_int_rmul repeat_tuple F.slot_int_index.lookup
      (call_meets F.slot_int_rmul (typeIs_int s k t) F.entry_int_rmul (F.args_int_rmul_2 _ _) (int_rmul_tuple k t l its.toArray n dd sl)
        ⟨ho, rfl, ⟨_, ho, rfl⟩, call_meets F.slot_tuple_mul ⟨_, ho, rfl⟩ F.entry_tuple_mul (F.args_tuple_mul_2 _ _) (tuple_mulSame l its.toArray n dd sl k t c0 c1) ⟨ho, ⟨.ref l, H, I, rfl, q⟩⟩⟩)
  · have hne : xs.isEmpty = false := by cases xs <;> first | rfl | exact absurd rfl hn
    have c1 : (its.toArray.isEmpty || k == 1) = false := by
      rw [he, hne, Bool.false_or]
      exact beq_eq_false_iff_ne.mpr (by omega)
    have c2 : (decide (k ≤ 0) || its.toArray.isEmpty) = true := by rw [decide_eq_true hk]; rfl
    refine wpAny_binaryOp_repeat_ref (T := "tuple") (U := "int") (by decide) ⟨_, ho, rfl⟩ (fun s' => typeIs_int s' k t) noFill_tuple_mul F.fills_int_mul F.slot_int_rmul repeat_tuple F.slot_int_index.lookup
      (call_meets F.slot_int_rmul (typeIs_int s k t) F.entry_int_rmul (F.args_int_rmul_2 _ _) (int_rmul_tuple k t l its.toArray n dd sl)
        ⟨ho, rfl, ⟨_, ho, rfl⟩, call_meets F.slot_tuple_mul ⟨_, ho, rfl⟩ F.entry_tuple_mul (F.args_tuple_mul_2 _ _) (tuple_mulNone l its.toArray n dd sl k t c0 c1 c2) ⟨ho, ?_⟩⟩)
    refine ⟨.ref s.heap.objs.size, _, I.laid (t' := s.toks) (o := .tup []) (fun b ob q => Heap.get?_push_of_some _ q) (Nat.le_refl _) ?_, rfl, q _ (I.hok.fresh (Nat.le_refl _))⟩
    exact ⟨Nat.zero_le _, [], .nil, IsTup.new _ _⟩
/-- t * k -/
def fMulT : D → D → Option D
  | .tuple ds, .int k => if -(2 ^ 63) ≤ k ∧ k ≤ 1000 ∧ ds.length ≤ 1000 then some (.tuple (List.replicate k.toNat ds).flatten) else none
  | _, _ => none
theorem v_mulT {K : PySem.W.Frag} : Val2 K (fun x y H Q => rRepT K x y H Q ∨ rRepS K x y H Q) fMulT := by
  intro B H x y d e z Q s hx hy hz k
  unfold fMulT at hz
  split at hz
  · rename_i ds n
    split at hz
    · rename_i hn
      cases hz
      cases hy
      cases hx with
      | @tup a xs _ h1 h2 =>
        have hl := DqAll.len h2
        by_cases h0 : xs = []
        · subst h0
          cases h2
          refine .inr ⟨_, n, [], rfl, rfl, sq_t s h1, by omega, hn.1, .inl ⟨.inl rfl, k _ H B (Gr.refl s) ?_⟩⟩
          have : (List.replicate n.toNat ([] : List D)).flatten = [] := by simp
          rw [this]
          exact .tup h1 .nil
        · by_cases h3 : n = 1
          · subst h3
            refine .inr ⟨_, _, _, rfl, rfl, sq_t s h1, by decide, by decide, .inl ⟨.inr rfl, k _ H B (Gr.refl s) ?_⟩⟩
            have : (List.replicate (Int.toNat 1) ds).flatten = ds := by
              show (List.replicate 1 ds).flatten = ds
              simp
            rw [this]
            exact .tup h1 h2
          · by_cases h4 : n ≤ 0
            · refine .inr ⟨_, _, _, rfl, rfl, sq_t s h1, by omega, hn.1, .inr ⟨h0, h4, fun p hp => ?_⟩⟩
              have gr := Gr.new s (o := .tup []) hp
              refine k _ _ _ gr ?_
              rw [show n.toNat = 0 by omega]
              exact .tup (SqT.of upd_same) .nil
            · refine .inl ⟨_, _, _, rfl, rfl, sq_t s h1, h0, by omega, by omega, by omega, fun p hp => ?_⟩
              have gr := Gr.new s (o := .tup (List.replicate n.toNat xs).flatten) hp
              exact k _ _ _ gr (.tup (SqT.of upd_same) (DqA_up gr.b _ _ (rep_rel h2 _)))
    · cases hz
  · cases hz
def fMulA (d e : D) : Option D := (fMul d e).or (fMulT d e)
section
variable {π : Type} {Z : PotK π} {S : Sta} {N : List Str} {sc : Scope} {a b : Expr} {pos : Pos} {α β : SE π}
theorem fe_mulA (ha : FE S N sc Z a α) (hb : FE S N sc Z b β) : FE S N sc Z (.BinOp a .Mult b pos) (xBin fMulA α β) :=
  fe_op (r := fun x y H Q => O2 S.K fMul x y H Q ∨ (rRepT S.K x y H Q ∨ rRepS S.K x y H Q)) (fun X hX => by
    have hK := K_fam hX
    rw [← hK]
    exact OpR.or2 o_mul (OpR.or2 op_repT op_repS)) (Val2.or2 v_O2 v_mulT) ha hb
end
end FL

namespace FL
open PySem PySem.Spec PyProof.Rows L2

/-! ### list(range(n)) -/
def rRng1 : List V → Hp → VK → Prop := fun vs H Q => ∃ j, vs = [V.int j] ∧ ∀ p, H p = none → Q (.ref p) (upd H p (.rng 0 j))
theorem cr_rng1 {X : Cx} : CallR X (.type "range") rRng1 := by
  intro pins s σ H vs us Q I r h
  obtain ⟨j, rfl, q⟩ := h
  cases r with
  | cons r1 r2 =>
    cases r2
    obtain ⟨t, rfl⟩ := r1
    refine call_range_1 ⟨.ref s.heap.objs.size, upd H s.heap.objs.size (.rng 0 j), I.laid (t' := s.toks + 1 + 1) (fun b o e => Heap.get?_push_of_some _ e) (Nat.le_refl _) ?_, rfl, q _ (I.hok.fresh (Nat.le_refl _))⟩
    exact ⟨s.toks, t, s.toks + 1, Heap.get?_push_size _ rfl⟩
theorem vals_rng {vs : List Value} : ∀ (k n : Nat), vs.length = n → (∀ (i : Nat) (v : Value), vs[i]? = some v → ∃ t, v = Value.int ((k + i : Nat) : Int) t) → Vals ((List.range' k n).map fun (j : Nat) => V.int (j : Int)) vs := by
  induction vs with
  | nil =>
    intro k n hn _
    cases hn
    exact .nil
  | cons v r ih =>
    intro k n hn h
    cases n with
    | zero => simp at hn
    | succ n =>
      rw [List.range'_succ, List.map_cons]
      obtain ⟨t, e⟩ := h 0 v rfl
      refine .cons ⟨t, e⟩ (ih (k + 1) n (by simpa using hn) fun i w hw => ?_)
      obtain ⟨t, e⟩ := h (i + 1) w (by simpa using hw)
      exact ⟨t, by rw [e, show k + 1 + i = k + (i + 1) by omega]⟩
def rLstRng : List V → Hp → VK → Prop := fun vs H Q => ∃ r j, vs = [V.ref r] ∧ H r = some (.rng 0 j) ∧ -(2 ^ 62) ≤ j ∧ j ≤ 2 ^ 24 ∧ ∀ p, H p = none → Q (.ref p) (upd H p (.lst ((List.range' 0 j.toNat).map fun (i : Nat) => V.int (i : Int))))
theorem cr_lstRng {X : Cx} (hc : X.calm = true) : CallR X (.type "list") rLstRng := by
  intro pins s σ H vs us Q I r h
  obtain ⟨a, j, rfl, ha, h1, h2, q⟩ := h
  cases r with
  | cons r1 r2 =>
    cases r2
    cases (show _ = Value.ref a from r1)
    obtain ⟨t, u, v, ho⟩ := (show ObjOk X.prog X.w H s.heap a (.rng 0 j) from I.hok a _ ha)
    have hsz : Builtin.Range.rangeSize 0 j 1 = ((j.toNat : Nat) : Int) := by
      unfold Builtin.Range.rangeSize
      rw [if_pos (by decide)]
      split
      · rw [Int.ediv_one]; omega
      · omega
    refine call_list_range (I.ok.hd hc) (show IsRange s.heap a 0 j 1 t u v from ho) (small_one (by decide) (by decide) h1 (by omega)) hsz (by omega) fun h' tk acc' c' hk hg hi => ?_
    have hl : acc'.toList.length = j.toNat := by rw [Array.length_toList]; exact hi.1
    have hv : Vals ((List.range' 0 j.toNat).map fun (i : Nat) => V.int (i : Int)) acc'.toList := vals_rng 0 _ hl fun i w hw => by
      obtain ⟨t, e⟩ := hi.2 i w (by rw [← Array.getElem?_toList]; exact hw)
      exact ⟨t, by rw [e]; congr 1; omega⟩
    refine ⟨.ref s.heap.objs.size, upd H s.heap.objs.size _, I.laid (t' := tk) hk (Nat.le_refl _) ?_, rfl, q _ (I.hok.fresh (Nat.le_refl _))⟩
    exact ⟨by rw [List.length_map, List.length_range', sizeLine_eq]; omega, acc'.toList, c', hv, by rw [Array.toArray_toList]; exact hg⟩
def fLstRng : D → Option (List D)
  | .int j => if -(2 ^ 62) ≤ j ∧ j ≤ 2 ^ 24 then some (rngL 0 j.toNat) else none
  | _ => none
def lRng {π : Type} (α : SE π) : SL π := fun σ p => (α σ p).bind fun x => (fLstRng x.1).map fun ds => (ds, x.2)
theorem rng_vals (K : PySem.W.Frag) (B : Hp) (n : Nat) : DqAll K B ((List.range' 0 n).map fun (i : Nat) => V.int (i : Int)) (rngL 0 n) := by
  unfold rngL
  rw [← List.range_eq_range']
  generalize List.range n = l
  induction l with
  | nil => exact .nil
  | cons a r ih =>
    rw [List.map_cons, List.map_cons, Int.zero_add]
    exact .cons (.int _) ih
section
variable {π : Type} {Z : PotK π} {S : Sta} {N : List Str} {sc : Scope} {a : Expr} {pos q1 q2 q3 : Pos} {α : SE π}
theorem fl_listRng (hm : S.mg "list" = none) (hmr : S.mg "range" = none) (ha : FE S N sc Z a α) (hg : Gb sc "list" := by rfl) (hgr : Gb sc "range" := by rfl)
    (he : ∀ X : Cx, starEach [a] X.env = (false, eval a X.env) :: starEach [] X.env := by intro _; rfl) (he2 : ∀ X : Cx, starEach [.Call (.Name "range" q2) [a] [] q3] X.env = (false, eval (.Call (.Name "range" q2) [a] [] q3) X.env) :: starEach [] X.env := by intro _; rfl)
    (hpl : ∀ (X : Cx) (q : Pos), (backTo q (starEach [] X.env)).any (·.1) = false := by intro _ _; rfl) :
    FL S N sc Z (.Call (.Name "list" q1) [.Call (.Name "range" q2) [a] [] q3] [] pos) (lRng α) := by
  obtain ⟨t, a1, a2⟩ := ha.ex
  refine ⟨tCB rLstRng (tCons (tCB rRng1 (tCons t tNil)) tNil), fun X hX => ?_, fun F B vs H σ p ds p' Q r q k => ?_⟩
  · exact pe_callTy (cr_lstRng (calm_fam hX)) (gl_of hX hg) (by rw [mg_of hX]; exact hm) (by decide +kernel) (pa_cons (pe_callTy cr_rng1 (gl_of hX hgr) (by rw [mg_of hX]; exact hmr) (by decide +kernel) (pa_cons (a1 X hX) pa_nil (he X)) (by decide) (by decide) (he X) (hpl X q3)) pa_nil (he2 X)) (by decide) (by decide) (he2 X) (hpl X pos)
  · obtain ⟨⟨x, p1⟩, e1, q⟩ := bnd q
    obtain ⟨z, e2, q⟩ := mpd q
    cases q
    refine a2 F B vs H σ p x p1 _ r e1 fun v H1 B1 s1 r1 d1 => ?_
    cases x with
    | int j =>
      have e2 : (if -(2 ^ 62) ≤ j ∧ j ≤ 2 ^ 24 then some (rngL 0 j.toNat) else none) = some ds := e2
      split at e2
      · rename_i hj
        cases e2
        cases d1
        refine ⟨j, rfl, fun g hg => ⟨g, j, rfl, upd_same, hj.1, hj.2, fun l hl => ?_⟩⟩
        have n1 : l ≠ g := fun w => by rw [w, upd_same] at hl; cases hl
        have hl0 : H1 l = none := by rw [upd_ne n1] at hl; exact hl
        have gr1 : Gr B1 H1 B1 (upd H1 g (.rng 0 j)) := Gr.lay r1.sub hg
        have r2 := r1.grow gr1
        exact k l _ B1 s1 (newL_of r2 (Gr.lay r2.sub hl) hl (r2.sub.free hl) upd_same (rng_vals _ _ _))
      · cases e2
    | _ => cases e2
end
end FL

namespace HT
open PySem PySem.Spec PyProof.Rows
section
variable {prog : Program} {w : World} {A : Around} {E : Value → Shared → Prop} {s : Shared}
theorem slicePart_none' {Q : Option Int → Shared → Prop} (h : Q none s) : wpAny (model prog w) A (Builtin.Slice.slicePartIndex .none) Q E s := slicePart_none h
theorem sliceApplied_st {sl : Addr} {vl vu vs : Value} {lo hi : Option Int} {st : Int} {n : Nat} {Q : Int × Int × Nat → Shared → Prop} (hs : s.heap.IsSliceOf sl vl vu vs) (pl : IsPart vl lo) (pu : IsPart vu hi) (ps : IsPart vs (some st)) (h0 : st ≠ 0)
    (h : Q ((Builtin.Slice.sliceAdjust lo hi st n).1, st, Builtin.Slice.slicePlaces (Builtin.Slice.sliceAdjust lo hi st n).1 (Builtin.Slice.sliceAdjust lo hi st n).2 st) s) : wpAny (model prog w) A (Builtin.Slice.sliceApplied (.ref sl) (pure (n : Int))) Q E s := by
  obtain ⟨os, hos, hcs, hds⟩ := id hs
  unfold Builtin.Slice.sliceApplied Builtin.Slice.sliceFields
  refine wpAny_bind (wpAny_bind (wpAny_field hos hds (x := vl) rfl (wpAny_bind (wpAny_field hos hds (x := vu) rfl (wpAny_bind (wpAny_field hos hds (x := vs) rfl (wpAny_pure ?_)))))))
  refine wpAny_bind (slicePart_ ps ?_)
  show wpAny _ _ (if (st == 0) = true then _ else _) _ _ s
  rw [if_neg (by simpa using h0)]
  refine wpAny_bind (slicePart_ pl (wpAny_bind (slicePart_ pu (wpAny_bind (wpAny_pure ?_)))))
  exact wpAny_pure h
def ixS (n : Nat) (lo hi : Option Int) (st : Int) : List Nat :=
  (List.range (Builtin.Slice.slicePlaces (Builtin.Slice.sliceAdjust lo hi st n).1 (Builtin.Slice.sliceAdjust lo hi st n).2 st)).map fun k => ((Builtin.Slice.sliceAdjust lo hi st n).1 + (k : Nat) * st).toNat
theorem getItem_tuple_st {t sl : Addr} {items : Array Value} {vl vu vs : Value} {lo hi : Option Int} {st : Int} {Q : Value → Shared → Prop} (ht : IsTup s.heap t items) (hs : s.heap.IsSliceOf sl vl vu vs) (pl : IsPart vl lo) (pu : IsPart vu hi) (ps : IsPart vs (some st)) (h0 : st ≠ 0) (h1 : st ≠ 1)
    (hsz : ((ixS items.size lo hi st).filterMap fun k => items[k]?).length ≤ sizeLine)
    (h : Q (.ref s.heap.objs.size) { s with heap := s.heap.push { cls := .type "tuple", data := .seq ((ixS items.size lo hi st).filterMap fun k => items[k]?).toArray } }) : wpAny (model prog w) A (getItem (.ref t) (.ref sl)) Q E s := by
  obtain ⟨os, hos, hcs, hds⟩ := id hs
  have hTs : s.TypeIs (.ref sl) "slice" := ⟨os, hos, hcs⟩
  unfold getItem
  try with_reducible refine wpAny_holding ?_
  first | refine wpAny_bind (wpAny_pure ?_) | skip
  refine wpAny_bind (wpAny_sequenceKey ht.typeIs (by decide) ?_)
  refine wpAny_bind (wpAny_callSpecial?_slot (name := Str.ofString "__getitem__") ht.typeIs PyProof.Rows.slot_tuple_getitem
    (wpAny_call_entry PyProof.Rows.slot_tuple_getitem ht.typeIs entry_tuple_getitem ?_ (args_tuple_getitem _ _)))
  show wpAny _ _ (Builtin.Tuple.tupleItemsOf (.ref t) >>= _) _ _ s
  refine wpAny_bind (tupleItemsOf_ ht ?_)
  refine wpAny_bind (wpAny_typeOf hTs ?_)
  rw [if_pos (by decide)]
  refine wpAny_bind (sliceApplied_st hs pl pu ps h0 ?_)
  have hno : ¬ (((Builtin.Slice.sliceAdjust lo hi st items.size).1 == 0 && st == 1 && Builtin.Slice.slicePlaces (Builtin.Slice.sliceAdjust lo hi st items.size).1 (Builtin.Slice.sliceAdjust lo hi st items.size).2 st == items.size) = true) := by
    intro q
    rw [Bool.and_eq_true, Bool.and_eq_true] at q
    exact h1 (eq_of_beq q.1.2)
  show wpAny _ _ (if ((Builtin.Slice.sliceAdjust lo hi st items.size).1 == 0 && st == 1 && Builtin.Slice.slicePlaces (Builtin.Slice.sliceAdjust lo hi st items.size).1 (Builtin.Slice.sliceAdjust lo hi st items.size).2 st == items.size) = true then _ else _) _ _ s
  rw [if_neg hno]
  have e : ((List.range (Builtin.Slice.slicePlaces (Builtin.Slice.sliceAdjust lo hi st items.size).1 (Builtin.Slice.sliceAdjust lo hi st items.size).2 st)).filterMap fun (k : Nat) => items[((Builtin.Slice.sliceAdjust lo hi st items.size).1 + (k : Int) * st).toNat]?) = (ixS items.size lo hi st).filterMap fun k => items[k]? := by
    unfold ixS
    rw [List.filterMap_map]; rfl
  rw [e]
  first
    | exact wpAny_bind (m := Builtin.Tuple.tupleExact _) (wpAny_newObj_type (wpAny_pure ⟨_, rfl, wpAny_pure h⟩) (by show _ ≤ _; rw [List.size_toArray]; exact hsz))
    | exact wpAny_bind (m := Builtin.Tuple.tupleExact _) (wpAny_newObj_type (wpAny_bind (wpAny_pure (wpAny_pure ⟨_, rfl, wpAny_pure h⟩))) (by show _ ≤ _; rw [List.size_toArray]; exact hsz))
    | exact wpAny_bind (wpAny_bind (m := Builtin.Tuple.tupleExact _) (wpAny_newObj_type (wpAny_pure (wpAny_pure ⟨_, rfl, wpAny_pure h⟩)) (by show _ ≤ _; rw [List.size_toArray]; exact hsz)))
    | exact wpAny_bind (wpAny_bind (m := Builtin.Tuple.tupleExact _) (wpAny_newObj_type (wpAny_pure ⟨_, rfl, wpAny_pure h⟩) (by show _ ≤ _; rw [List.size_toArray]; exact hsz)))
/-- step 1: all of it is the tuple itself -/
theorem getItem_tuple_s1 {t sl : Addr} {items : Array Value} {vl vu vs : Value} {lo hi : Option Int} {Q : Value → Shared → Prop} (ht : IsTup s.heap t items) (hs : s.heap.IsSliceOf sl vl vu vs) (pl : IsPart vl lo) (pu : IsPart vu hi) (ps : IsPart vs (some 1))
    (hsz : items.size ≤ sizeLine)
    (hw : sIx items.size 0 lo = 0 ∧ sIx items.size items.size hi = items.size → Q (.ref t) s)
    (h : ¬ (sIx items.size 0 lo = 0 ∧ sIx items.size items.size hi = items.size) → Q (.ref s.heap.objs.size) { s with heap := s.heap.push { cls := .type "tuple", data := .seq ((items.toList.drop (sIx items.size 0 lo)).take (sIx items.size items.size hi - sIx items.size 0 lo)).toArray } }) : wpAny (model prog w) A (getItem (.ref t) (.ref sl)) Q E s := by
  have htake : sizeOk (.seq ((items.toList.drop (sIx items.size 0 lo)).take (sIx items.size items.size hi - sIx items.size 0 lo)).toArray) := by
    show ((items.toList.drop (sIx items.size 0 lo)).take (sIx items.size items.size hi - sIx items.size 0 lo)).toArray.size ≤ sizeLine
    rw [List.size_toArray, List.length_take, List.length_drop, Array.length_toList]
    omega
  have hj : sIx items.size items.size hi ≤ items.size := sIx_le _ _ (Nat.le_refl _) hi
  obtain ⟨os, hos, hcs, hds⟩ := id hs
  have hTs : s.TypeIs (.ref sl) "slice" := ⟨os, hos, hcs⟩
  unfold getItem
  try with_reducible refine wpAny_holding ?_
  first | refine wpAny_bind (wpAny_pure ?_) | skip
  refine wpAny_bind (wpAny_sequenceKey ht.typeIs (by decide) ?_)
  refine wpAny_bind (wpAny_callSpecial?_slot (name := Str.ofString "__getitem__") ht.typeIs PyProof.Rows.slot_tuple_getitem
    (wpAny_call_entry PyProof.Rows.slot_tuple_getitem ht.typeIs entry_tuple_getitem ?_ (args_tuple_getitem _ _)))
  show wpAny _ _ (Builtin.Tuple.tupleItemsOf (.ref t) >>= _) _ _ s
  refine wpAny_bind (tupleItemsOf_ ht ?_)
  refine wpAny_bind (wpAny_typeOf hTs ?_)
  rw [if_pos (by decide)]
  refine wpAny_bind (sliceApplied_st hs pl pu ps (by decide) ?_)
  rw [adjust_gen lo hi items.size]
  show wpAny _ _ (if (((sIx items.size 0 lo : Nat) : Int) == 0 && (1 : Int) == 1 && (Builtin.Slice.slicePlaces ((sIx items.size 0 lo : Nat) : Int) ((sIx items.size items.size hi : Nat) : Int) 1) == items.size) = true then _ else _) _ _ s
  rw [places_gen]
  by_cases hx : sIx items.size 0 lo = 0 ∧ sIx items.size items.size hi = items.size
  · have hyes : (((sIx items.size 0 lo : Nat) : Int) == 0 && (1 : Int) == 1 && (sIx items.size items.size hi - sIx items.size 0 lo) == items.size) = true := by
      rw [hx.1, hx.2]
      simp
    rw [if_pos hyes]
    refine wpAny_bind ?_
    show wpAny _ _ (typeOf (.ref t) >>= fun T => pure (T == .type "tuple")) _ _ s
    refine wpAny_bind (wpAny_typeOf ht.typeIs (wpAny_pure ?_))
    have h := hw hx
    first
      | rw [if_pos (by decide)]
      | simp only [beq_self_eq_true, if_true]
    first
      | exact wpAny_bind (wpAny_rule (wpAny_pure ⟨_, rfl, wpAny_pure h⟩))
      | exact wpAny_bind (wpAny_rule (wpAny_bind (wpAny_pure (wpAny_pure ⟨_, rfl, wpAny_pure h⟩))))
  · have hno : ¬ ((((sIx items.size 0 lo : Nat) : Int) == 0 && (1 : Int) == 1 && (sIx items.size items.size hi - sIx items.size 0 lo) == items.size) = true) := by
      intro q
      rw [Bool.and_eq_true, Bool.and_eq_true] at q
      have q1 : ((sIx items.size 0 lo : Nat) : Int) = 0 := eq_of_beq q.1.1
      have q2 : sIx items.size items.size hi - sIx items.size 0 lo = items.size := eq_of_beq q.2
      exact hx ⟨by omega, by omega⟩
    rw [if_neg hno, pick_gen]
    have h := h hx
    first
      | exact wpAny_bind (m := Builtin.Tuple.tupleExact _) (wpAny_newObj_type (wpAny_pure ⟨_, rfl, wpAny_pure h⟩) htake)
      | exact wpAny_bind (m := Builtin.Tuple.tupleExact _) (wpAny_newObj_type (wpAny_bind (wpAny_pure (wpAny_pure ⟨_, rfl, wpAny_pure h⟩))) htake)
      | exact wpAny_bind (wpAny_bind (m := Builtin.Tuple.tupleExact _) (wpAny_newObj_type (wpAny_pure (wpAny_pure ⟨_, rfl, wpAny_pure h⟩)) htake))
      | exact wpAny_bind (wpAny_bind (m := Builtin.Tuple.tupleExact _) (wpAny_newObj_type (wpAny_pure ⟨_, rfl, wpAny_pure h⟩) htake))
end
end HT
namespace L2
open PySem PySem.Spec PyProof.Rows
section
variable {X : Cx} {e : Expr} {te : TE} {lo hi : Option Expr} {tl th : TO} {se : Expr} {ts : TE} {p2 pos : Pos}
/-- t[lo:hi:step] of a tuple -/
def rStT (K : PySem.W.Frag) : V → Option Int → Option Int → Int → Hp → VK → Prop := fun x lo hi st H Q => ∃ a xs, x = .ref a ∧ SqT K H a xs ∧ ((st = 1 ∧ (HT.sIx xs.length 0 lo = 0 ∧ HT.sIx xs.length xs.length hi = xs.length → Q (.ref a) H) ∧
    (¬ (HT.sIx xs.length 0 lo = 0 ∧ HT.sIx xs.length xs.length hi = xs.length) → ∀ p, H p = none → Q (.ref p) (upd H p (.tup (cutV xs lo hi))))) ∨
  (st ≠ 0 ∧ st ≠ 1 ∧ ((HT.ixS xs.length lo hi st).filterMap fun k => xs[k]?).length ≤ sizeLine ∧ ∀ p, H p = none → Q (.ref p) (upd H p (.tup ((HT.ixS xs.length lo hi st).filterMap fun k => xs[k]?)))))
def rStL (K : PySem.W.Frag) : V → Option Int → Option Int → Int → Hp → VK → Prop := fun x lo hi st H Q => ∃ a xs, x = .ref a ∧ SqL K H a xs ∧ st ≠ 0 ∧
  ∀ p, H p = none → Q (.ref p) (upd H p (.lst ((sliceRange (sliceBounds lo hi (some st) xs.length).1 (sliceBounds lo hi (some st) xs.length).2.1 (sliceBounds lo hi (some st) xs.length).2.2).filterMap fun k => xs[k]?)))
theorem Vals.pick {xs : List V} {us : List Value} (r : Vals xs us) : ∀ is : List Nat, Vals (is.filterMap fun k => xs[k]?) (is.filterMap fun k => us[k]?)
  | [] => .nil
  | k :: is => by
    have hl := r.length
    rw [List.filterMap_cons, List.filterMap_cons]
    by_cases h : k < xs.length
    · obtain ⟨u, h1, h2⟩ := r.get (List.getElem?_eq_getElem h)
      rw [List.getElem?_eq_getElem h, h1]
      exact .cons h2 (Vals.pick r is)
    · rw [List.getElem?_eq_none (by omega), List.getElem?_eq_none (by omega)]
      exact Vals.pick r is
def StR (X : Cx) (r : V → Option Int → Option Int → Int → Hp → VK → Prop) : Prop :=
  ∀ (pins : List (Addr × Obj)) (s : Shared) (σ : St) (H : Hp) (x : V) (v vl vu vs : Value) (lo hi : Option Int) (st : Int) (sl : Addr) (Q : VK), Inv X pins σ H s → RelV x v → s.heap.IsSliceOf sl vl vu vs → IsPart vl lo → IsPart vu hi → IsPart vs (some st) → r x lo hi st H Q →
    ∃ T id, typeLookup (.type T) "__getitem__" = pure (some (.builtin id)) ∧ s.TypeIs v T ∧ wpAny (model X.prog X.w) X.A (getItem v (.ref sl)) (EP X pins σ Q) X.xe s
theorem st_tup : StR X (rStT X.K) := by
  intro pins s σ H x v vl vu vs lo hi st sl Q I rx hs pl pu ps h
  obtain ⟨a, xs, rfl, hx, h⟩ := h
  cases rx
  obtain ⟨its, r, ht, hz⟩ := I.tuple hx
  have hlen : its.toArray.size = xs.length := by rw [List.size_toArray]; exact r.length.symm
  refine ⟨"tuple", _, PyProof.Rows.slot_tuple_getitem.lookup, ht.typeIs, ?_⟩
  rcases h with ⟨rfl, q1, q2⟩ | ⟨h0, h1, hz2, q⟩
  · refine HT.getItem_tuple_s1 ht hs pl pu ps (by rw [hlen]; exact hz) (fun hw => ⟨.ref a, H, I, rfl, q1 (by rw [hlen] at hw; exact hw)⟩) fun hw => ?_
    rw [hlen] at hw ⊢
    refine ⟨.ref s.heap.objs.size, _, I.laid (t' := s.toks) (o := .tup (cutV xs lo hi)) (fun b ob q => Heap.get?_push_of_some _ q) (Nat.le_refl _) ?_, rfl, q2 hw _ (I.hok.fresh (Nat.le_refl _))⟩
    exact ⟨Nat.le_trans (cutV_length xs lo hi) hz, _, (r.drop (HT.sIx xs.length 0 lo)).take (HT.sIx xs.length xs.length hi - HT.sIx xs.length 0 lo), IsTup.new _ _⟩
  · have hp := r.pick (HT.ixS xs.length lo hi st)
    have he : ((HT.ixS its.toArray.size lo hi st).filterMap fun k => its.toArray[k]?) = (HT.ixS xs.length lo hi st).filterMap fun k => its[k]? := by
      rw [hlen]; simp
    refine HT.getItem_tuple_st ht hs pl pu ps h0 h1 (by rw [he, ← hp.length]; exact hz2) ?_
    rw [he]
    refine ⟨.ref s.heap.objs.size, _, I.laid (t' := s.toks) (o := .tup ((HT.ixS xs.length lo hi st).filterMap fun k => xs[k]?)) (fun b ob q => Heap.get?_push_of_some _ q) (Nat.le_refl _) ?_, rfl, q _ (I.hok.fresh (Nat.le_refl _))⟩
    exact ⟨hz2, _, hp, IsTup.new _ _⟩
theorem st_list : StR X (rStL X.K) := by
  intro pins s σ H x v vl vu vs lo hi st sl Q I rx hs pl pu ps h
  obtain ⟨a, xs, rfl, hx, h0, q⟩ := h
  cases rx
  obtain ⟨its, r, ht, hz⟩ := I.list hx
  have hlen : its.toArray.size = xs.length := by rw [List.size_toArray]; exact r.length.symm
  refine ⟨"list", _, slot_list_getitem.lookup, ht.isList.typeIs, ?_⟩
  refine wpAny_getItem_list_slice ht.isList hs pl pu ps (by simpa using h0) ?_ (by rw [hlen]; exact hz)
  have hsz := slicePick_size_le its.toArray lo hi (some st)
  have he : slicePick its.toArray lo hi (some st) = ((sliceRange (sliceBounds lo hi (some st) xs.length).1 (sliceBounds lo hi (some st) xs.length).2.1 (sliceBounds lo hi (some st) xs.length).2.2).filterMap fun k => its[k]?).toArray := by
    unfold slicePick
    rw [hlen]; simp
  have hp := r.pick (sliceRange (sliceBounds lo hi (some st) xs.length).1 (sliceBounds lo hi (some st) xs.length).2.1 (sliceBounds lo hi (some st) xs.length).2.2)
  rw [he] at hsz ⊢
  rw [List.size_toArray, hlen, ← hp.length] at hsz
  refine ⟨.ref s.heap.objs.size, _, I.laid (t' := s.toks) (o := .lst _) (fun b ob q => Heap.get?_push_of_some _ q) (Nat.le_refl _) ?_, rfl, q _ (I.hok.fresh (Nat.le_refl _))⟩
  exact ⟨Nat.le_trans hsz hz, _, 0, hp, Heap.get?_push_size _ rfl⟩
def tSt (r : V → Option Int → Option Int → Int → Hp → VK → Prop) (te : TE) (tl th : TO) (ts : TE) : TE := fun σ H Q => te σ H fun x H1 => tl σ H1 fun l H2 => th σ H2 fun u H3 => ts σ H3 fun c H4 => ∃ st, c = .int st ∧ r x l u st H4 Q
/-- a[lo:hi:step], any a -/
theorem pe_sliceS {r : V → Option Int → Option Int → Int → Hp → VK → Prop} (hr : StR X r) (he : PE X e te) (hl : PO X lo tl) (hu : PO X hi th) (hs : PE X se ts) : PE X (.Subscript e (.Slice lo hi (some se) p2) pos) (tSt r te tl th ts) := by
  refine ⟨fun pins s σ H Q I h => ?_⟩
  refine Subscript_ (thn (he.run pins s σ H _ I h) fun v s1 ⟨x, H1, I1, r1, q1⟩ => ?_)
  refine wpAny_Slice (thn (hl.run pins s1 σ H1 _ I1 q1) fun vl s2 ⟨l, H2, I2, pl, q2⟩ => thn (hu.run pins s2 σ H2 _ I2 q2) fun vu s3 ⟨u, H3, I3, pu, q3⟩ => ?_)
  refine thn ((po_some hs).run pins s3 σ H3 (fun o H4 => ∃ st, o = some st ∧ r x l u st H4 Q) I3 ?_) fun vs s4 ⟨o, H4, I4, ps, st, eo, q4⟩ => ?_
  · show tPart ts σ H3 _
    have := q3
    unfold tPart
    refine cast ?_ q3
    congr 1
    funext c H4
    refine propext ⟨fun ⟨st, h1, h2⟩ => ⟨st, h1, st, rfl, h2⟩, fun ⟨st, h1, st', h2, h3⟩ => by cases h2; exact ⟨st, h1, h3⟩⟩
  subst eo
  have I5 : Inv X pins σ H4 { s4 with heap := s4.heap.push { cls := .type "slice", data := .fields #[vl, vu, vs] } } := I4.kept (t' := s4.toks) fun b ob q => Heap.get?_push_of_some _ q
  obtain ⟨T, id, hT, ht, hg⟩ := hr pins { s4 with heap := s4.heap.push { cls := .type "slice", data := .fields #[vl, vu, vs] } } σ H4 x v vl vu vs l u st s4.heap.objs.size Q I5 r1 (Heap.IsSliceOf.new ..) pl pu ps q4
  show wpAny (model X.prog X.w) X.A (subscriptTail e (.Slice lo hi (some se) p2) v (.ref s4.heap.objs.size)) (EP X pins σ Q) X.xe { s4 with heap := s4.heap.push { cls := .type "slice", data := .fields #[vl, vu, vs] } }
  exact tail_any (ops := [v, .ref s4.heap.objs.size]) ht hT hg (by with_unfolding_all rfl)
end
end L2
namespace FL
open PySem PySem.Spec PyProof.Rows L2
def pickD (ds : List D) (is : List Nat) : List D := is.filterMap fun k => ds[k]?
theorem DqAll.pick {K : PySem.W.Frag} {B : Hp} {vs : List V} {ds : List D} (h : DqAll K B vs ds) : ∀ is : List Nat, DqAll K B (is.filterMap fun k => vs[k]?) (pickD ds is)
  | [] => .nil
  | k :: is => by
    have hl := DqAll.len h
    unfold pickD
    rw [List.filterMap_cons, List.filterMap_cons]
    by_cases hk : k < vs.length
    · rw [List.getElem?_eq_getElem hk, List.getElem?_eq_getElem (by omega : k < ds.length)]
      exact .cons (DqAll.at h (List.getElem?_eq_getElem hk) (List.getElem?_eq_getElem (by omega))) (DqAll.pick h is)
    · rw [List.getElem?_eq_none (by omega), List.getElem?_eq_none (by omega)]
      exact DqAll.pick h is
def fSliceS (d : D) (lo hi : Option Int) (st : D) : Option D := match d, st with
  | .tuple ds, .int st => if st = 1 then some (.tuple (cutD ds lo hi)) else if st ≠ 0 ∧ (pickD ds (HT.ixS ds.length lo hi st)).length ≤ sizeLine then some (.tuple (pickD ds (HT.ixS ds.length lo hi st))) else none
  | _, _ => none
def ixLs (n : Nat) (lo hi : Option Int) (st : Int) : List Nat := sliceRange (sliceBounds lo hi (some st) n).1 (sliceBounds lo hi (some st) n).2.1 (sliceBounds lo hi (some st) n).2.2
def fSliceLS (d : D) (lo hi : Option Int) (st : D) : Option (List D) := match d, st with
  | .list ds, .int st => if st ≠ 0 then some (pickD ds (ixLs ds.length lo hi st)) else none
  | _, _ => none
section
variable {π : Type} {Z : PotK π} {S : Sta} {N : List Str} {sc : Scope} {e a b se : Expr} {es : List Expr} {pos p2 : Pos} {α β : SE π} {u v : SO π} {lo hi : Option Expr}
def xSliceS (α : SE π) (u v : SO π) (β : SE π) : SE π := fun σ p => (α σ p).bind fun x => (u σ x.2).bind fun y => (v σ y.2).bind fun z => (β σ z.2).bind fun t => (fSliceS x.1 y.1 z.1 t.1).map fun w => (w, t.2)
def lSliceS (α : SE π) (u v : SO π) (β : SE π) : SL π := fun σ p => (α σ p).bind fun x => (u σ x.2).bind fun y => (v σ y.2).bind fun z => (β σ z.2).bind fun t => (fSliceLS x.1 y.1 z.1 t.1).map fun w => (w, t.2)
theorem fe_sliceS (he : FE S N sc Z e α) (hl : FO S N sc Z lo u) (hu : FO S N sc Z hi v) (hs : FE S N sc Z se β) : FE S N sc Z (.Subscript e (.Slice lo hi (some se) p2) pos) (xSliceS α u v β) := by
  obtain ⟨te, a1, a2⟩ := he.ex
  obtain ⟨tl, b1, b2⟩ := hl.ex
  obtain ⟨th, c1, c2⟩ := hu.ex
  obtain ⟨ts, f1, f2⟩ := hs.ex
  refine ⟨tSt (rStT S.K) te tl th ts, fun X hX => by
    have hK : X.K = S.K := by obtain ⟨_, _, _, _, _, _, _, _, _, _, rfl⟩ := hX; rfl
    rw [← hK]
    exact pe_sliceS st_tup (a1 X hX) (b1 X hX) (c1 X hX) (f1 X hX), fun F B vs H σ p d p' Q r q k => ?_⟩
  obtain ⟨⟨x, p1⟩, e1, q⟩ := bnd q
  obtain ⟨⟨y, p2⟩, e2, q⟩ := bnd q
  obtain ⟨⟨z, p3⟩, e3, q⟩ := bnd q
  obtain ⟨⟨t, p4⟩, e5, q⟩ := bnd q
  obtain ⟨w, e4, q⟩ := mpd q
  cases q
  refine a2 F B vs H σ p x p1 _ r e1 fun v1 H1 B1 s1 r1 d1 => ?_
  refine b2 F B1 vs H1 σ p1 y p2 _ r1 e2 fun H2 B2 s2 r2 => ?_
  refine c2 F B2 vs H2 σ p2 z p3 _ r2 e3 fun H3 B3 s3 r3 => ?_
  refine f2 F B3 vs H3 σ p3 t p4 _ r3 e5 fun v4 H4 B4 s4 r4 d4 => ?_
  have dd := Dq_up ((s2.trans s3).trans s4) _ _ d1
  cases x with
  | tuple ds =>
    cases t with
    | int st =>
      cases d4
      cases dd with
      | @tup a xs _ h1 h2 =>
        have hl := DqAll.len h2
        refine ⟨st, rfl, a, xs, rfl, sq_t r4.sub h1, ?_⟩
        unfold fSliceS at e4
        simp only at e4
        by_cases h : st = 1
        · rw [if_pos h] at e4
          cases e4
          refine .inl ⟨h, fun hw => ?_, fun hw q hq => ?_⟩
          · refine k _ H4 B4 (((s1.trans s2).trans s3).trans s4) r4 ?_
            rw [cutD_whole (by rw [← hl]; exact hw)]
            exact .tup h1 h2
          · have gr := Gr.new r4.sub (o := .tup (cutV xs y z)) hq
            exact k _ _ _ ((((s1.trans s2).trans s3).trans s4).trans gr.b) (r4.grow gr) (.tup (SqT.of upd_same) (DqA_up gr.b _ _ (cutD_of h2 y z)))
        · rw [if_neg h] at e4
          split at e4
          · rename_i hh
            cases e4
            have hp := h2.pick (HT.ixS ds.length y z st)
            refine .inr ⟨hh.1, h, by rw [hl, DqAll.len hp]; exact hh.2, fun q hq => ?_⟩
            rw [hl]
            have gr := Gr.new r4.sub (o := .tup ((HT.ixS ds.length y z st).filterMap fun k => xs[k]?)) hq
            exact k _ _ _ ((((s1.trans s2).trans s3).trans s4).trans gr.b) (r4.grow gr) (.tup (SqT.of upd_same) (DqA_up gr.b _ _ hp))
          · cases e4
    | _ => cases e4
  | _ => cases e4
theorem fl_sliceS (he : FE S N sc Z e α) (hl : FO S N sc Z lo u) (hu : FO S N sc Z hi v) (hs : FE S N sc Z se β) : FL S N sc Z (.Subscript e (.Slice lo hi (some se) p2) pos) (lSliceS α u v β) := by
  obtain ⟨te, a1, a2⟩ := he.ex
  obtain ⟨tl, b1, b2⟩ := hl.ex
  obtain ⟨th, c1, c2⟩ := hu.ex
  obtain ⟨ts, f1, f2⟩ := hs.ex
  refine ⟨tSt (rStL S.K) te tl th ts, fun X hX => by
    have hK : X.K = S.K := by obtain ⟨_, _, _, _, _, _, _, _, _, _, rfl⟩ := hX; rfl
    rw [← hK]
    exact pe_sliceS st_list (a1 X hX) (b1 X hX) (c1 X hX) (f1 X hX), fun F B vs H σ p d p' Q r q k => ?_⟩
  obtain ⟨⟨x, p1⟩, e1, q⟩ := bnd q
  obtain ⟨⟨y, p2⟩, e2, q⟩ := bnd q
  obtain ⟨⟨z, p3⟩, e3, q⟩ := bnd q
  obtain ⟨⟨t, p4⟩, e5, q⟩ := bnd q
  obtain ⟨w, e4, q⟩ := mpd q
  cases q
  refine a2 F B vs H σ p x p1 _ r e1 fun v1 H1 B1 s1 r1 d1 => ?_
  refine b2 F B1 vs H1 σ p1 y p2 _ r1 e2 fun H2 B2 s2 r2 => ?_
  refine c2 F B2 vs H2 σ p2 z p3 _ r2 e3 fun H3 B3 s3 r3 => ?_
  refine f2 F B3 vs H3 σ p3 t p4 _ r3 e5 fun v4 H4 B4 s4 r4 d4 => ?_
  have dd := Dq_up ((s2.trans s3).trans s4) _ _ d1
  cases x with
  | list ds =>
    cases t with
    | int st =>
      cases d4
      cases dd with
      | @lst a xs _ h1 h2 =>
        have hl := DqAll.len h2
        unfold fSliceLS at e4
        simp only at e4
        split at e4
        · rename_i hh
          cases e4
          refine ⟨st, rfl, a, xs, rfl, SqL.of (r4.sub _ _ h1), hh, fun q hq => ?_⟩
          have hp := h2.pick (ixLs ds.length y z st)
          unfold ixLs at hp
          rw [← hl] at hp
          have := newL_of r4 (Gr.lay r4.sub hq) hq (r4.sub.free hq) upd_same hp
          rw [hl] at this ⊢
          exact k q _ B4 (((s1.trans s2).trans s3).trans s4) this
        · cases e4
    | _ => cases e4
  | _ => cases e4
end
end FL

namespace FL
open PySem PySem.Spec PyProof.Rows L2
section
variable {π : Type} {Z : PotK π} {S : Sta} {N : List Str} {sc : Scope} {e a b c : Expr} {es : List Expr} {pos q1 q2 q3 : Pos} {α β γ : SE π} {φ : SB π} {ω : SL π}
/-! ### {} -/
theorem fe_dict0 : FE S N sc Z (.Dict [] [] pos) (xC (.dict [])) := by
  refine ⟨tDNewK, fun _ _ => pe_dnewK, fun F B vs H σ p d p' Q r e k => ?_⟩
  cases e
  intro q hq
  have gr := Gr.new r.sub (o := HO.dK []) hq
  exact k _ _ _ gr.b (r.grow gr) (.dct upd_same .nil)
/-! ### a module's number -/
theorem fe_glob {x : Str} {i : Int} {t : Tok} (hm : S.mg x = some (.int i t)) (hg : Gb sc x := by rfl) (hd : (x == ("__debug__" : Str)) = false := by decide) : FE S N sc Z (.Name x pos) (xC (.int i)) :=
  ⟨_, fun X hX => pe_glob (gl_of hX hg) (v := .int i) (by rw [mg_of hX]; exact hm) ⟨t, rfl⟩ hd, sem_c fun _ => .int _⟩
/-! ### tuple(range(..)), list(range(..)) -/
theorem rgV_dq (K : PySem.W.Frag) (B : Hp) (a b : Int) : DqAll K B (rgV a b) (rngL a (b - a).toNat) := by
  unfold rgV rngL
  generalize List.range (b - a).toNat = l
  induction l with
  | nil => exact .nil
  | cons x r ih => exact .cons (.int _) ih
def rgOk (a b : Int) : Bool := decide (-(2 ^ 62) ≤ a) && decide (a < 2 ^ 62) && decide (-(2 ^ 62) ≤ b) && decide (b < 2 ^ 62) && decide ((b - a).toNat ≤ 2 ^ 24)
theorem rgOk_of {a b : Int} (h : rgOk a b = true) : RgOk a b := by
  unfold rgOk at h
  simp only [Bool.and_eq_true, decide_eq_true_eq] at h
  exact ⟨h.1.1.1.1, h.1.1.1.2, h.1.1.2, h.1.2, h.2⟩
def fRg : List D → Option (List D)
  | [.int j] => if rgOk 0 j = true then some (rngL 0 (j - 0).toNat) else none
  | [.int i, .int j] => if rgOk i j = true then some (rngL i (j - i).toNat) else none
  | _ => none
def xTupRg (ω : SL π) : SE π := fun σ p => (ω σ p).bind fun x => (fRg x.1).map fun ds => (.tuple ds, x.2)
def lLstRg (ω : SL π) : SL π := fun σ p => (ω σ p).bind fun x => (fRg x.1).map fun ds => (ds, x.2)
theorem fe_tupRg1 (hm : S.mg "tuple" = none) (hr : S.mg "range" = none) (ha : FE S N sc Z a α) (hg : Gb sc "tuple" := by rfl) (hgr : Gb sc "range" := by rfl)
    (na : ∀ X : Cx, starEach [a] X.env = (false, eval a X.env) :: starEach [] X.env := by intro _; rfl) (nr : ∀ X : Cx, starEach [.Call (.Name "range" q2) [a] [] q3] X.env = (false, eval (.Call (.Name "range" q2) [a] [] q3) X.env) :: starEach [] X.env := by intro _; rfl) :
    FE S N sc Z (.Call (.Name "tuple" q1) [.Call (.Name "range" q2) [a] [] q3] [] pos) (xTupRg (aCons α aNil)) := by
  obtain ⟨t, a1, a2⟩ := ha.ex
  refine ⟨tTupRg (tRg1 t), fun X hX => pe_tupRg (calm_fam hX) (gl_of hX hg) (by rw [mg_of hX]; exact hm) (prg_1 (gl_of hX hgr) (by rw [mg_of hX]; exact hr) (a1 X hX) (na X)) (nr X), fun F B vs H σ p d p' Q r q k => ?_⟩
  obtain ⟨⟨y, p0⟩, e1, q⟩ := bnd q
  obtain ⟨⟨x, p1⟩, e2, q2⟩ := bnd e1
  cases q2
  obtain ⟨z, e3, q⟩ := mpd q
  cases q
  refine a2 F B vs H σ p x p1 _ r e2 fun v H1 B1 s1 r1 d1 => ?_
  cases x with
  | int j =>
    cases d1
    have e3 : (if rgOk 0 j = true then some (rngL 0 (j - 0).toNat) else none) = some z := e3
    split at e3
    · rename_i hz
      cases e3
      refine ⟨j, rfl, rgOk_of hz, fun q hq => ?_⟩
      have gr := Gr.new r1.sub (o := .tup (rgV 0 j)) hq
      exact k _ _ _ (s1.trans gr.b) (r1.grow gr) (.tup (SqT.of upd_same) (rgV_dq _ _ _ _))
    · cases e3
  | _ => cases e3
theorem fe_tupRg2 (hm : S.mg "tuple" = none) (hr : S.mg "range" = none) (ha : FE S N sc Z a α) (hb : FE S N sc Z b β) (hg : Gb sc "tuple" := by rfl) (hgr : Gb sc "range" := by rfl)
    (na : ∀ X : Cx, starEach [a, b] X.env = (false, eval a X.env) :: starEach [b] X.env := by intro _; rfl) (nb : ∀ X : Cx, starEach [b] X.env = (false, eval b X.env) :: starEach [] X.env := by intro _; rfl) (hp : ∀ X : Cx, (backTo q3 (starEach [b] X.env)).any (·.1) = false := by intro _; rfl)
    (nr : ∀ X : Cx, starEach [.Call (.Name "range" q2) [a, b] [] q3] X.env = (false, eval (.Call (.Name "range" q2) [a, b] [] q3) X.env) :: starEach [] X.env := by intro _; rfl) :
    FE S N sc Z (.Call (.Name "tuple" q1) [.Call (.Name "range" q2) [a, b] [] q3] [] pos) (xTupRg (aCons α (aCons β aNil))) := by
  obtain ⟨t, a1, a2⟩ := ha.ex
  obtain ⟨t', b1, b2⟩ := hb.ex
  refine ⟨tTupRg (tRg2 t t'), fun X hX => pe_tupRg (calm_fam hX) (gl_of hX hg) (by rw [mg_of hX]; exact hm) (prg_2 (gl_of hX hgr) (by rw [mg_of hX]; exact hr) (a1 X hX) (b1 X hX) (na X) (nb X) (hp X)) (nr X), fun F B vs H σ p d p' Q r q k => ?_⟩
  obtain ⟨⟨y, p0⟩, e1, q⟩ := bnd q
  obtain ⟨⟨x, p2⟩, e2, q2⟩ := bnd e1
  obtain ⟨⟨w, p3⟩, e4, q3⟩ := mpd q2
  cases q3
  obtain ⟨⟨x2, p4⟩, e5, q4⟩ := bnd e4
  cases q4
  obtain ⟨z, e3, q⟩ := mpd q
  cases q
  refine a2 F B vs H σ p x p2 _ r e2 fun v H1 B1 s1 r1 d1 => ?_
  refine b2 F B1 vs H1 σ p2 x2 _ _ r1 e5 fun v2 H2 B2 s2 r2 d2 => ?_
  cases x with
  | int i =>
    cases x2 with
    | int j =>
      cases d1
      cases d2
      have e3 : (if rgOk i j = true then some (rngL i (j - i).toNat) else none) = some z := e3
      split at e3
      · rename_i hz
        cases e3
        refine ⟨i, j, rfl, rfl, rgOk_of hz, fun q hq => ?_⟩
        have gr := Gr.new r2.sub (o := .tup (rgV i j)) hq
        exact k _ _ _ ((s1.trans s2).trans gr.b) (r2.grow gr) (.tup (SqT.of upd_same) (rgV_dq _ _ _ _))
      · cases e3
    | _ => cases e3
  | _ => cases e3
theorem fl_lstRg2 (hm : S.mg "list" = none) (hr : S.mg "range" = none) (ha : FE S N sc Z a α) (hb : FE S N sc Z b β) (hg : Gb sc "list" := by rfl) (hgr : Gb sc "range" := by rfl)
    (na : ∀ X : Cx, starEach [a, b] X.env = (false, eval a X.env) :: starEach [b] X.env := by intro _; rfl) (nb : ∀ X : Cx, starEach [b] X.env = (false, eval b X.env) :: starEach [] X.env := by intro _; rfl) (hp : ∀ X : Cx, (backTo q3 (starEach [b] X.env)).any (·.1) = false := by intro _; rfl)
    (nr : ∀ X : Cx, starEach [.Call (.Name "range" q2) [a, b] [] q3] X.env = (false, eval (.Call (.Name "range" q2) [a, b] [] q3) X.env) :: starEach [] X.env := by intro _; rfl) :
    FL S N sc Z (.Call (.Name "list" q1) [.Call (.Name "range" q2) [a, b] [] q3] [] pos) (lLstRg (aCons α (aCons β aNil))) := by
  obtain ⟨t, a1, a2⟩ := ha.ex
  obtain ⟨t', b1, b2⟩ := hb.ex
  refine ⟨tLstRg (tRg2 t t'), fun X hX => pe_listRg (calm_fam hX) (gl_of hX hg) (by rw [mg_of hX]; exact hm) (prg_2 (gl_of hX hgr) (by rw [mg_of hX]; exact hr) (a1 X hX) (b1 X hX) (na X) (nb X) (hp X)) (nr X), fun F B vs H σ p d p' Q r q k => ?_⟩
  obtain ⟨⟨y, p0⟩, e1, q⟩ := bnd q
  obtain ⟨⟨x, p2⟩, e2, q2⟩ := bnd e1
  obtain ⟨⟨w, p3⟩, e4, q3⟩ := mpd q2
  cases q3
  obtain ⟨⟨x2, p4⟩, e5, q4⟩ := bnd e4
  cases q4
  obtain ⟨z, e3, q⟩ := mpd q
  cases q
  refine a2 F B vs H σ p x p2 _ r e2 fun v H1 B1 s1 r1 d1 => ?_
  refine b2 F B1 vs H1 σ p2 x2 _ _ r1 e5 fun v2 H2 B2 s2 r2 d2 => ?_
  cases x with
  | int i =>
    cases x2 with
    | int j =>
      cases d1
      cases d2
      have e3 : (if rgOk i j = true then some (rngL i (j - i).toNat) else none) = some _ := e3
      split at e3
      · rename_i hz
        cases e3
        refine ⟨i, j, rfl, rfl, rgOk_of hz, fun q hq => ?_⟩
        exact k q _ B2 (s1.trans s2) (newL_of r2 (Gr.lay r2.sub hq) hq (r2.sub.free hq) upd_same (rgV_dq _ _ _ _))
      · cases e3
    | _ => cases e3
  | _ => cases e3
/-! ### targets of any shape -/
end
def tgNil : List D → Sg → Option Sg
  | [], σ => some σ
  | _ :: _, _ => none
def tgCons (τ : D → Sg → Option Sg) (τs : List D → Sg → Option Sg) : List D → Sg → Option Sg
  | [], _ => none
  | d :: r, σ => (τ d σ).bind fun σ' => τs r σ'
def tgTup (τs : List D → Sg → Option Sg) : D → Sg → Option Sg
  | .tuple ds, σ => τs ds σ
  | _, _ => none
def SemGs (K : PySem.W.Frag) (n : Nat) (g : TGs) (τ : List D → Sg → Option Sg) : Prop :=
  (∀ ds σ σ', τ ds σ = some σ' → ds.length = n) ∧ ∀ {π : Type} (Z : PotK π) (F : Fx) (B : Hp) (vs : L2.St) (H : Hp) (σ : Sg) (p : π) (xs : List V) (ds : List D) (σ' : Sg) (Q : L2.St → Hp → Prop),
    Rep K Z F B vs H σ p → DqAll K B xs ds → τ ds σ = some σ' → (∀ vs', Rep K Z F B vs' H σ' p → Q vs' H) → g xs vs H Q
def SemGsc (K : PySem.W.Frag) (own : List Nat) (n : Nat) (g : TGs) (τ : List D → Sg → Option Sg) : Prop :=
  (∀ ds σ σ', τ ds σ = some σ' → ds.length = n) ∧ ∀ {π : Type} (Z : PotK π) (F : Fx) (B : Hp) (vs : L2.St) (H : Hp) (σ : Sg) (p : π) (xs : List V) (ds : List D) (σ' : Sg) (Q : L2.St → Hp → Prop),
    Rep K Z F B vs H σ p → DqAll K B xs ds → τ ds σ = some σ' → (∀ vs', Rep K Z F B vs' H σ' p → wipe vs' own = wipe vs own → (∀ j, j ∉ own → σ'[j]? = σ[j]? ∧ vs'[j]? = vs[j]?) → Q vs' H) → g xs vs H Q
structure FGs (S : Sta) (N : List Str) (sc : Scope) (tgs : List Expr) (τ : List D → Sg → Option Sg) : Prop where
  ex : ∃ g, (∀ X, Fam1 S N sc X → PGs X tgs g) ∧ SemGs S.K tgs.length g τ
structure FGcs (S : Sta) (N : List Str) (sc scope : Scope) (own : List Nat) (tgs : List Expr) (τ : List D → Sg → Option Sg) : Prop where
  ex : ∃ g, (∀ X, Fam S N sc X → ∀ (s : Shared) (H : Hp) (C : Addr) (cl : List (Str × Addr)) (fp : List Addr), PGs (X.blk s H scope (compEnvC scope cl C X.env) fp) tgs g) ∧ SemGsc S.K own tgs.length g τ
section
variable {S : Sta} {N : List Str} {sc scope : Scope} {own : List Nat} {t : Expr} {ts : List Expr} {τ : D → Sg → Option Sg} {τs : List D → Sg → Option Sg} {pos : Pos}
theorem fgs_nil : FGs S N sc [] tgNil := by
  refine ⟨gNil, fun X hX => pgs_nil, fun ds σ σ' e => ?_, fun Z F B vs H σ p xs ds σ' Q r hd e k => ?_⟩
  · cases ds with
    | nil => rfl
    | cons _ _ => cases e
  · cases hd with
    | nil => cases e; exact ⟨rfl, k _ r⟩
    | cons _ _ => cases e
theorem fgs_cons (h : FG S N sc t τ) (hs : FGs S N sc ts τs) (ha : ∀ X : Cx, (assignEach (t :: ts) X.env).map (·.2) = assign t X.env :: (assignEach ts X.env).map (·.2) := by intro _; rfl) : FGs S N sc (t :: ts) (tgCons τ τs) := by
  obtain ⟨g, a1, a2⟩ := h.ex
  obtain ⟨gs, b1, b2, b3⟩ := hs.ex
  refine ⟨gCons g gs, fun X hX => pgs_cons (a1 X hX) (b1 X hX) (ha X), fun ds σ σ' e => ?_, fun Z F B vs H σ p xs ds σ' Q r hd e k => ?_⟩
  · cases ds with
    | nil => cases e
    | cons d ds =>
      obtain ⟨σ1, _, e2⟩ := bnd e
      rw [List.length_cons, List.length_cons, b2 _ _ _ e2]
  · cases hd with
    | nil => cases e
    | cons h1 h2 =>
      obtain ⟨σ1, e1, e2⟩ := bnd e
      exact ⟨_, _, rfl, a2 Z F B vs H σ p _ _ σ1 _ r h1 e1 fun vs' r' => b3 Z F B vs' H σ1 p _ _ σ' _ r' h2 e2 k⟩
theorem fg_tup {k : Nat} (h : FGs S N sc ts τs) (hn : ∀ X : Cx, (assignEach ts X.env).length = ts.length := by intro _; rfl) (hst : ∀ X : Cx, (assignEach ts X.env).findIdx? (·.1) = none := by intro _; rfl) : FG S N sc (.Tuple ts k pos) (tgTup τs) := by
  obtain ⟨g, a1, a2, a3⟩ := h.ex
  refine ⟨gTup S.K ts.length g, fun X hX => ?_, fun Z F B vs H σ p v d σ' Q r hd e k => ?_⟩
  · rw [← K_fam hX.1]
    exact pg_tup (calm_fam hX.1) (a1 X hX) (hn X) (hst X)
  · cases hd with
    | tup hs ha =>
      have hl := ha.len
      exact ⟨_, _, rfl, sq_t r.sub hs, by rw [hl]; exact a2 _ _ _ e, a3 Z F B vs H σ p _ _ σ' _ r ha e k⟩
    | _ => cases e
theorem fgcs_nil : FGcs S N sc scope own [] tgNil := by
  refine ⟨gNil, fun X hX s H C cl fp => pgs_nil, fun ds σ σ' e => ?_, fun Z F B vs H σ p xs ds σ' Q r hd e k => ?_⟩
  · cases ds with
    | nil => rfl
    | cons _ _ => cases e
  · cases hd with
    | nil => cases e; exact ⟨rfl, k _ r rfl fun _ _ => ⟨rfl, rfl⟩⟩
    | cons _ _ => cases e
theorem fgcs_cons (h : FGc S N sc scope own t τ) (hs : FGcs S N sc scope own ts τs) (ha : ∀ E : Env, (assignEach (t :: ts) E).map (·.2) = assign t E :: (assignEach ts E).map (·.2) := by intro _; rfl) : FGcs S N sc scope own (t :: ts) (tgCons τ τs) := by
  obtain ⟨g, a1, a2⟩ := h.ex
  obtain ⟨gs, b1, b2, b3⟩ := hs.ex
  refine ⟨gCons g gs, fun X hX s H C cl fp => pgs_cons (a1 X hX s H C cl fp) (b1 X hX s H C cl fp) (ha _), fun ds σ σ' e => ?_, fun Z F B vs H σ p xs ds σ' Q r hd e k => ?_⟩
  · cases ds with
    | nil => cases e
    | cons d ds =>
      obtain ⟨σ1, _, e2⟩ := bnd e
      rw [List.length_cons, List.length_cons, b2 _ _ _ e2]
  · cases hd with
    | nil => cases e
    | cons h1 h2 =>
      obtain ⟨σ1, e1, e2⟩ := bnd e
      exact ⟨_, _, rfl, a2 Z F B vs H σ p _ _ σ1 _ r h1 e1 fun vs' r' w1 w2 => b3 Z F B vs' H σ1 p _ _ σ' _ r' h2 e2 fun vs2 r2 w3 w4 => k vs2 r2 (w3.trans w1) fun j hj => ⟨(w4 j hj).1.trans (w2 j hj).1, (w4 j hj).2.trans (w2 j hj).2⟩⟩
theorem fgc_tup {k : Nat} (h : FGcs S N sc scope own ts τs) (hn : ∀ E : Env, (assignEach ts E).length = ts.length := by intro _; rfl) (hst : ∀ E : Env, (assignEach ts E).findIdx? (·.1) = none := by intro _; rfl) : FGc S N sc scope own (.Tuple ts k pos) (tgTup τs) := by
  obtain ⟨g, a1, a2, a3⟩ := h.ex
  refine ⟨gTup S.K ts.length g, fun X hX s H C cl fp => ?_, fun Z F B vs H σ p v d σ' Q r hd e k => ?_⟩
  · have hK : X.K = S.K := K_fam hX
    rw [← hK]
    have hc : X.calm = true := calm_fam hX
    exact pg_tup hc (a1 X hX s H C cl fp) (hn _) (hst _)
  · cases hd with
    | tup hs ha =>
      have hl := ha.len
      exact ⟨_, _, rfl, sq_t r.sub hs, by rw [hl]; exact a2 _ _ _ e, a3 Z F B vs H σ p _ _ σ' _ r ha e k⟩
    | _ => cases e
end
end FL

namespace FL
open PySem PySem.Spec PyProof.Rows L2
open PySem.Sem (wp)
/-! ### zip of two lists or tuples, any mix -/
/-- a list (true) or a tuple (false) -/
def SqB (K : PySem.W.Frag) : Bool → Hp → Addr → List V → Prop
  | true, H, a, xs => SqL K H a xs
  | false, H, a, xs => SqT K H a xs
def IsB : Bool → Heap → Addr → Array Value → Prop
  | true, h, a, vs => h.IsList a vs
  | false, h, a, vs => h.IsTuple a vs
def ItrB : Bool → Heap → Addr → Addr → Nat → Prop
  | true, h, it, a, i => h.IsListIter it a i
  | false, h, it, a, i => h.IsTupleIter it a i
def begObj : Bool → Addr → Obj
  | true, a => { cls := .type "list_iterator", data := .fields #[.ref a, .int 0 0] }
  | false, a => { cls := .type "tuple_iterator", data := .fields #[.ref a, .int 0 0] }
theorem beginsB (k : Bool) (a : Addr) (vs : Array Value) : Begins (.ref a) (begObj k a) fun h => IsB k h a vs := by
  cases k with
  | true => exact begins_list a vs
  | false => exact begins_tuple a vs
theorem itrB_beg {k : Bool} {h : Heap} {it a : Addr} (e : h.get? it = some (begObj k a)) : ItrB k h it a 0 := by
  cases k with
  | true => exact ⟨_, e, rfl, rfl⟩
  | false => exact ⟨_, e, rfl, rfl⟩
theorem ItrB.obj {k : Bool} {h : Heap} {it a : Addr} {i : Nat} (s : ItrB k h it a i) : ∃ o, h.get? it = some o ∧ ∀ v, o.data ≠ .cell v := by
  cases k with
  | true => obtain ⟨o, e, _, d⟩ := s; exact ⟨o, e, fun v q => by rw [d] at q; cases q⟩
  | false => obtain ⟨o, e, _, d⟩ := s; exact ⟨o, e, fun v q => by rw [d] at q; cases q⟩
theorem ItrB.at {k : Bool} {h h' : Heap} {it a : Addr} {i : Nat} (s : ItrB k h it a i) (q : ∀ o, h.get? it = some o → h'.get? it = some o) : ItrB k h' it a i := by
  cases k with
  | true => exact Heap.IsListIter.at s q
  | false => exact Heap.IsTupleIter.at s q
theorem drawsB {prog : Program} {w : World} {A : Around} (hh : A.handled = none) (k : Bool) (it l : Addr) (hne : l ≠ it) (items : Array Value) :
    Draws prog w A it [it, l] items.size (fun i v => items[i]? = some v) (fun i h => ItrB k h it l i ∧ IsB k h l items) := by
  cases k with
  | true => exact Draws.list hh it l hne items
  | false => exact Draws.tuple hh it l hne items
theorem sqB_at {X : Cx} {pins : List (Addr × Obj)} {σ : L2.St} {H : Hp} {s : Shared} {k : Bool} {a : Addr} {xs : List V} (I : Inv X pins σ H s) (h : SqB X.K k H a xs) : ∃ its, Vals xs its ∧ IsB k s.heap a its.toArray ∧ a < s.heap.objs.size := by
  cases k with
  | true =>
    obtain ⟨its, rv, p, _⟩ := I.list h
    exact ⟨its, rv, p.isList, p.lt⟩
  | false =>
    obtain ⟨its, rv, p, _⟩ := I.tuple h
    obtain ⟨o, ho, q⟩ := id p
    exact ⟨its, rv, ⟨o, ho, q⟩, Heap.lt_size ho⟩
theorem sqB_inj {X : Cx} {pins : List (Addr × Obj)} {σ : L2.St} {H : Hp} {s : Shared} {k : Bool} {a : Addr} {xs ys : List V} (I : Inv X pins σ H s) (h : SqB X.K k H a xs) (h' : SqB X.K k H a ys) : xs = ys := by
  cases k with
  | true => exact I.list_inj h h'
  | false => exact I.tuple_inj h h'
def ItzM (K : PySem.W.Frag) (k1 k2 : Bool) (a b : Addr) : It :=
  ⟨fun i H => ∃ (xs ys : List V) (x y : V), SqB K k1 H a xs ∧ SqB K k2 H b ys ∧ xs[i]? = some x ∧ ys[i]? = some y,
    fun i H v H' => ∃ T x y, v = .ref T ∧ H T = none ∧ H' = upd H T (.tup [x, y]) ∧ (∀ xs, SqB K k1 H a xs → xs[i]? = some x) ∧ ∀ ys, SqB K k2 H b ys → ys[i]? = some y,
    fun i H => ∃ xs ys : List V, SqB K k1 H a xs ∧ SqB K k2 H b ys ∧ (xs.length ≤ i ∨ ys.length ≤ i) ∧ i ≤ xs.length ∧ i ≤ ys.length⟩
theorem turn_zipM {P : Program} {w : World} {K : PySem.W.Frag} {k1 k2 : Bool} {elts : List Expr} {kk : Nat} {tpos : Pos} {a b z TI TO i1 i2 : Addr} (D : ZipSep2 z TI TO i1 i2 [i1, a] [i2, b]) (n1 : a ≠ i1) (n2 : b ≠ i2) :
    Turn P w K (.Tuple elts kk tpos) (ItzM K k1 k2 a b) [z, TI, TO, i1, i2] z (fun i h => IsZip h z TI TO .none ∧ IsTupOf2 h TI (.ref i1) (.ref i2) ∧ (∃ x y, IsTupOf2 h TO x y) ∧ ItrB k1 h i1 a i ∧ ItrB k2 h i2 b i) where
  mem := by simp
  obj := fun i h st c hc => by
    obtain ⟨hz, hTI, ⟨x, y, hTO⟩, s1, s2⟩ := st
    obtain ⟨o1, e1, d1⟩ := s1.obj
    obtain ⟨o2, e2, d2⟩ := s2.obj
    have e' : c = z ∨ c = TI ∨ c = TO ∨ c = i1 ∨ c = i2 := by simpa using hc
    rcases e' with q | q | q | q | q
    · rw [q]; exact ⟨_, hz, fun v q => nomatch q⟩
    · rw [q]; exact ⟨_, hTI, fun v q => nomatch q⟩
    · rw [q]; exact ⟨_, hTO, fun v q => nomatch q⟩
    · rw [q]; exact ⟨o1, e1, d1⟩
    · rw [q]; exact ⟨o2, e2, d2⟩
  keep := fun i h h' st k => by
    obtain ⟨hz, hTI, ⟨x, y, hTO⟩, h1, h2⟩ := st
    exact ⟨k z (by simp) _ hz, k TI (by simp) _ hTI, ⟨x, y, k TO (by simp) _ hTO⟩, h1.at fun o q => k i1 (by simp) o q, h2.at fun o q => k i2 (by simp) o q⟩
  item := by
    intro X hP hw hK hc i pins s σ H E I hf st hg
    subst hP hw hK
    obtain ⟨hz, hTI, ⟨x0, y0, hTO⟩, h1, h2⟩ := st
    obtain ⟨xs, ys, x, y, hqx, hqy, hx, hy⟩ := hg
    obtain ⟨its, rv, p, la⟩ := sqB_at I hqx
    obtain ⟨its2, rv2, p2, lb⟩ := sqB_at I hqy
    obtain ⟨u, hu, ru⟩ := rv.get hx
    obtain ⟨u2, hu2, ru2⟩ := rv2.get hy
    have hzl : z < s.heap.objs.size := Heap.lt_size hz
    have hh : X.A.in1.handled = none := I.ok.hd hc
    have lt1 : i < its.toArray.size := by have := (List.getElem?_eq_some_iff.mp hu).1; simpa using this
    have lt2 : i < its2.toArray.size := by have := (List.getElem?_eq_some_iff.mp hu2).1; simpa using this
    refine wpAny_pyNext_zipD2_item D (drawsB hh k1 i1 a n1 its.toArray) (drawsB hh k2 i2 b n2 its2.toArray) hz hTI hTO ⟨h1, p⟩ ⟨h2, p2⟩ lt1 lt2 fun x1 x2 h' tk g1 g2 z' TO' s1' s2' hT hsz hk => ?_
    obtain rfl : u = x1 := by
      have g1 : its.toArray[i]? = some x1 := g1
      have : its[i]? = some x1 := by simpa using g1
      rw [hu] at this; exact Option.some.inj this
    obtain rfl : u2 = x2 := by
      have g2 : its2.toArray[i]? = some x2 := g2
      have : its2[i]? = some x2 := by simpa using g2
      rw [hu2] at this; exact Option.some.inj this
    refine ⟨_, rfl, wpAny_letOwnedTupleGo_zip (s := { s with heap := h', toks := tk }) z' fun h'' z'' sb => ?_⟩
    have hT2 : h''.get? s.heap.objs.size = some { cls := .type "tuple", data := .seq #[u, u2] } := (sb.2 _ (Nat.ne_of_gt hzl)).trans hT
    have new : ObjOk X.prog X.w (upd H s.heap.objs.size (.tup [x, y])) h'' s.heap.objs.size (.tup [x, y]) :=
      ⟨by show 2 ≤ sizeLine; decide, [u, u2], .cons ru (.cons ru2 .nil), ⟨_, hT2, rfl, _, rfl⟩⟩
    have I1 : Inv X pins σ (upd H s.heap.objs.size (.tup [x, y])) { s with heap := h'', toks := tk } :=
      I.turnedNew (t' := tk) (ch := [z, TI, TO, i1, i2]) (fun c o hb q => (sb.2 c (fun q' => hb (by simp [q']))).trans (hk c o (fun q' => hb (by simp [q'])) (fun q' => hb (by simp [q'])) (fun q' => hb (by simp [q'])) (fun q' => hb (by simp [q'])) q)) hf (Nat.le_refl _) new
    refine ⟨.ref s.heap.objs.size, _, I1, rfl, ⟨_, x, y, rfl, I.hok.fresh (Nat.le_refl _), rfl, fun l hl => by rw [sqB_inj I hl hqx]; exact hx, fun l hl => by rw [sqB_inj I hl hqy]; exact hy⟩, ⟨z'', ?_, ⟨u, u2, ?_⟩, ?_, ?_⟩, fun c hcm => ?_⟩
    · exact (sb.2 _ D.TIz).trans (hk _ _ D.TIz D.TITO D.TIi1 D.TIi2 hTI)
    · exact (sb.2 _ D.TOz).trans TO'
    · exact s1'.1.at fun o q => (sb.2 _ D.zi1.symm).trans q
    · exact s2'.1.at fun o q => (sb.2 _ D.zi2.symm).trans q
    · have hlt : c < s.heap.objs.size := by
        have e' : c = z ∨ c = TI ∨ c = TO ∨ c = i1 ∨ c = i2 := by simpa using hcm
        rcases e' with q | q | q | q | q
        · rw [q]; exact hzl
        · rw [q]; exact Heap.lt_size hTI
        · rw [q]; exact Heap.lt_size hTO
        · rw [q]; obtain ⟨_, e1, _⟩ := h1.obj; exact Heap.lt_size e1
        · rw [q]; obtain ⟨_, e2, _⟩ := h2.obj; exact Heap.lt_size e2
      rw [upd_ne (Nat.ne_of_lt hlt)]
      exact (hf c hcm).1
  done := by
    intro X hP hw hK hc i pins s σ H E I hf st hg
    subst hP hw hK
    obtain ⟨hz, hTI, ⟨x0, y0, hTO⟩, h1, h2⟩ := st
    obtain ⟨xs, ys, hqx, hqy, hend, le1, le2⟩ := hg
    obtain ⟨its, rv, p, la⟩ := sqB_at I hqx
    obtain ⟨its2, rv2, p2, lb⟩ := sqB_at I hqy
    have l1 := rv.length
    have l2 := rv2.length
    have hh : X.A.in1.handled = none := I.ok.hd hc
    have e1 : i ≤ its.toArray.size := by rw [List.size_toArray]; omega
    have e2 : i ≤ its2.toArray.size := by rw [List.size_toArray]; omega
    have e3 : i = its.toArray.size ∨ i = its2.toArray.size := by rw [List.size_toArray, List.size_toArray]; omega
    exact wpAny_pyNext_zipD2_end D (drawsB hh k1 i1 a n1 its.toArray) (drawsB hh k2 i2 b n2 its2.toArray) hz hTI hTO ⟨h1, p⟩ ⟨h2, p2⟩ e1 e2 e3 fun h' tk hk => ⟨rfl, I.turnedL (t' := tk) (ch := [z, TI, TO, i1, i2]) (fun c o hb q =>
      hk c o (fun q' => hb (by simp [q'])) (fun q' => hb (by simp [q'])) (fun q' => hb (by simp [q'])) (fun q' => hb (by simp [q'])) q) hf⟩
  self := fun A i s Q E st h => wpAny_pyIter_zip st.1 h
def iZipM (K : PySem.W.Frag) (ta : TA) : TI := fun σ H R => ta σ H fun vs H1 => ∃ k1 k2 a b xs ys, vs = [.ref a, .ref b] ∧ SqB K k1 H1 a xs ∧ SqB K k2 H1 b ys ∧ R (ItzM K k1 k2 a b) H1
theorem pi_zipM {X : Cx} {e e2 : Expr} {ta : TA} {p pos tpos : Pos} {elts : List Expr} {kk : Nat} (hg : Gl X "zip") (hm : X.mg "zip" = none) (ha : PA X [e, e2] ta)
    (hs : starEach [e, e2] X.env = (false, eval e X.env) :: starEach [e2] X.env := by rfl) (hpl : (backTo pos (starEach [e2] X.env)).any (·.1) = false := by rfl) :
    PI X (.Tuple elts kk tpos) (.Call (.Name "zip" p) [e, e2] [] pos) (iZipM X.K ta) := by
  refine ⟨fun pins s σ H R I h => ?_⟩
  refine Call_ (ld_blt I hg hm PyProof.Rows.boot_zip (PyProof.Rows.callWith_type1 (thn (ha.run pos pins s σ H _ I h) fun us s1 ⟨vs, H1, I1, r1, q1⟩ => ?_) hs hpl))
  obtain ⟨k1, k2, a, b, xs, ys, ex, hqx, hqy, q⟩ := q1
  subst ex
  cases r1 with
  | cons r rr =>
    cases rr with
    | cons r' rr =>
      cases rr
      cases r
      cases r'
      have fresh5 : ∀ c, c ∈ [s1.heap.objs.size + 4, s1.heap.objs.size + 2, s1.heap.objs.size + 3, s1.heap.objs.size, s1.heap.objs.size + 1] → FpOk X pins H1 c := fun c hcm => by
        have e' : c = s1.heap.objs.size + 4 ∨ c = s1.heap.objs.size + 2 ∨ c = s1.heap.objs.size + 3 ∨ c = s1.heap.objs.size ∨ c = s1.heap.objs.size + 1 := by simpa using hcm
        have hle : s1.heap.objs.size ≤ c := by
          rcases e' with z | z | z | z | z
          · rw [z]; exact Nat.le_add_right _ _
          · rw [z]; exact Nat.le_add_right _ _
          · rw [z]; exact Nat.le_add_right _ _
          · rw [z]; exact Nat.le_refl _
          · rw [z]; exact Nat.le_add_right _ _
        exact I1.fpOk hle (I1.hok.fresh hle)
      obtain ⟨its, rv, p1, la⟩ := sqB_at I1 hqx
      obtain ⟨its2, rv2, p2, lb⟩ := sqB_at I1 hqy
      refine zip_begins2 (beginsB k1 a its.toArray) (beginsB k2 b its2.toArray) p1 p2 fun h' hz hTI hTO h1 h2 hsz hk => wpAny_pyIter_zip hz ?_
      have I2 : Inv X pins σ H1 { s1 with heap := h' } := I1.kept (t' := s1.toks) hk
      exact ⟨s1.heap.objs.size + 4, [s1.heap.objs.size + 4, s1.heap.objs.size + 2, s1.heap.objs.size + 3, s1.heap.objs.size, s1.heap.objs.size + 1], _, _, H1, rfl, I2,
        turn_zipM (zip_sep2 (N := s1.heap.objs.size) (fp1 := [a]) (fp2 := [b]) (fun c hc => by rw [List.mem_singleton.mp hc]; exact la) (fun c hc => by rw [List.mem_singleton.mp hc]; exact lb)) (Nat.ne_of_lt la) (Nat.ne_of_lt (Nat.lt_succ_of_lt lb)),
        ⟨hz, hTI, ⟨_, _, hTO⟩, itrB_beg h1, itrB_beg h2⟩, fresh5, q⟩
/-! ### at readings -/
def dSeq : D → Option (List D)
  | .list ds => some ds
  | .tuple ds => some ds
  | _ => none
def zipFA : List D → Option (List D)
  | [x, y] => (dSeq x).bind fun ds => (dSeq y).map fun es => zipL ds es
  | _ => none
theorem sqB_of {K : PySem.W.Frag} {B : Hp} {v : V} {d : D} {ds : List D} (h : Dq K B v d) (e : dSeq d = some ds) : ∃ (k : Bool) (a : Addr) (xs : List V), v = .ref a ∧ (∀ H, Same B H → SqB K k H a xs) ∧ DqAll K B xs ds := by
  cases h with
  | lst h1 h2 =>
    cases e
    exact ⟨true, _, _, rfl, fun H s => SqL.of (s _ _ h1), h2⟩
  | tup h1 h2 =>
    cases e
    exact ⟨false, _, _, rfl, fun H s => sq_t s h1, h2⟩
  | _ => cases e
theorem it_zipM {K : PySem.W.Frag} {B : Hp} {k1 k2 : Bool} {a b : Addr} {xs ys : List V} {ds es : List D} (h : ∀ H, Same B H → SqB K k1 H a xs) (hd : DqAll K B xs ds) (h' : ∀ H, Same B H → SqB K k2 H b ys) (he : DqAll K B ys es) : ItOk K (ItzM K k1 k2 a b) B (zipL ds es) where
  stop := fun i H s hi => by
    rw [zipL_len, ← DqAll.len hd, ← DqAll.len he] at hi
    exact ⟨xs, ys, h H s, h' H s, by omega, by omega, by omega⟩
  go := fun i H s hi => by
    rw [zipL_len, ← DqAll.len hd, ← DqAll.len he] at hi
    have hx : i < xs.length := by omega
    have hy : i < ys.length := by omega
    exact ⟨xs, ys, xs[i], ys[i], h H s, h' H s, List.getElem?_eq_getElem hx, List.getElem?_eq_getElem hy⟩
  yld := fun i H x H' d s y e B2 s1 s2 => by
    obtain ⟨T, w, z, e1, hT, e2, y1, y2⟩ := y
    subst e1 e2
    obtain ⟨d1, d2, g1, g2, g3⟩ := zipL_get ds es i d e
    subst g3
    have gr : Gr B2 H (upd B2 T (.tup [w, z])) (upd H T (.tup [w, z])) := Gr.new s2 hT
    exact ⟨_, gr, .tup (SqT.of upd_same) (.cons (Dq_up (s1.trans gr.b) d1 w (DqAll.at hd (y1 xs (h H s)) g1)) (.cons (Dq_up (s1.trans gr.b) d2 z (DqAll.at he (y2 ys (h' H s)) g2)) .nil))⟩
theorem vi_zipM {K : PySem.W.Frag} : ValI K (fun vs H1 R => ∃ k1 k2 a b xs ys, vs = [V.ref a, .ref b] ∧ SqB K k1 H1 a xs ∧ SqB K k2 H1 b ys ∧ R (ItzM K k1 k2 a b) H1) zipFA := by
  intro B H xs ds z R s hd e k
  cases hd with
  | nil => cases e
  | cons dx dn =>
    cases dn with
    | nil => cases e
    | cons dy dn =>
      cases dn with
      | cons _ _ => cases e
      | nil =>
        obtain ⟨l1, e1, e⟩ := Option.bind_eq_some_iff.mp (show (dSeq _).bind _ = some z from e)
        obtain ⟨l2, e2, e⟩ := Option.map_eq_some_iff.mp e
        subst e
        obtain ⟨k1, a, xs, rfl, g1, g2⟩ := sqB_of dx e1
        obtain ⟨k2, b, ys, rfl, g3, g4⟩ := sqB_of dy e2
        exact ⟨k1, k2, a, b, xs, ys, rfl, g1 _ s, g3 _ s, k _ (it_zipM g1 g2 g3 g4)⟩
section
variable {π : Type} {Z : PotK π} {S : Sta} {N : List Str} {sc : Scope} {a b : Expr} {ω : SL π} {elts : List Expr} {kk : Nat} {tpos q1 pos : Pos}
theorem fi_zipA (hg : Gb sc "zip") (hm : S.mg "zip" = none) (ha : FA S N sc Z [a, b] ω) (hs : ∀ X : Cx, starEach [a, b] X.env = (false, eval a X.env) :: starEach [b] X.env := by intro _; rfl)
    (hpl : ∀ X : Cx, (backTo pos (starEach [b] X.env)).any (·.1) = false := by intro _; rfl) : FI S N sc Z (.Tuple elts kk tpos) (.Call (.Name "zip" q1) [a, b] [] pos) (iBy zipFA ω) := by
  obtain ⟨t, a1, a2⟩ := ha.ex
  refine ⟨iZipM S.K t, fun X hX => ?_, sem_iby vi_zipM a2⟩
  have hp := a1 X hX
  have g1 := gl_of hX hg
  have g2 := mg_of hX
  obtain ⟨_, s0, H0, env, outer, stack, ex, fn, pn, hs', hx⟩ := hX
  subst hx
  exact pi_zipM g1 (by rw [g2]; exact hm) hp (hs _) (hpl _)
end
theorem f_zipTT {ds es : List D} : zipFA [.tuple ds, .tuple es] = some (zipL ds es) := rfl
theorem f_zipTL {ds es : List D} : zipFA [.tuple ds, .list es] = some (zipL ds es) := rfl
theorem f_zipLT {ds es : List D} : zipFA [.list ds, .tuple es] = some (zipL ds es) := rfl
theorem f_zipLL {ds es : List D} : zipFA [.list ds, .list es] = some (zipL ds es) := rfl
end FL

namespace FL
open PySem L2
section
variable {π : Type} {σ : Sg} {p p1 p2 p' : π} {α β γ : SE π} {φ ψ : SB π} {ω : SL π} {d x y z : D} {ds es : List D} {τ : D → Sg → Option Sg} {i j l : Nat} {u v : SO π} {lo hi : Option Int} {R : Out π → Prop} {σ1' : Sg}
/-- the state turns, counted -/
theorem lc_evo {κ ρ : Type} {own : List Nat} (e : κ → D) (s : κ → Sg) (h : ρ → D) (J : Nat → π → Prop) (G : κ → ρ → Prop) (n : Nat) : ∀ (xs : List κ) (k : Nat) (p : π), k + xs.length ≤ n → J k p → (∀ x ∈ xs, τ (e x) (wipeS σ own) = some (s x)) →
    (∀ i, i < n → ∀ x ∈ xs, ∀ p, J i p → ∃ y p1, α (s x) p = some (h y, p1) ∧ G x y ∧ J (i + 1) p1) → ∃ (ys : List ρ) (p' : π), All2 G xs ys ∧ J (k + xs.length) p' ∧ lcGo own τ xYes α (xs.map e) σ p = some (ys.map h, p')
  | [], k, p, _, hJ, _, _ => ⟨[], p, .nil, hJ, rfl⟩
  | x :: r, k, p, hn, hJ, h1, h3 => by
    rw [List.length_cons] at hn
    obtain ⟨y, p1, hy, gy, hJ1⟩ := h3 k (by omega) x List.mem_cons_self p hJ
    obtain ⟨ys, p', hs, hJ2, ih⟩ := lc_evo e s h J G n r (k + 1) p1 (by omega) hJ1 (fun y hy => h1 y (List.mem_cons_of_mem _ hy)) fun i hi y hy => h3 i hi y (List.mem_cons_of_mem _ hy)
    refine ⟨y :: ys, p', .cons gy hs, by rw [List.length_cons, show k + (r.length + 1) = k + 1 + r.length by omega]; exact hJ2, ?_⟩
    rw [List.map_cons]
    unfold lcGo
    rw [h1 x List.mem_cons_self]
    simp only [xYes, Option.bind_some, if_true, hy, ih, Option.map_some, List.map_cons]
theorem lc_evoS {κ : Type} {own : List Nat} (e : κ → D) (s : κ → Sg) (h : κ → D) (J : Nat → π → Prop) (n : Nat) : ∀ (xs : List κ) (k : Nat) (p : π), k + xs.length ≤ n → J k p → (∀ x ∈ xs, τ (e x) (wipeS σ own) = some (s x)) → (∀ i, i < n → ∀ x ∈ xs, ∀ p, J i p → ∃ c p1, φ (s x) p = some (c, p1) ∧ J (i + 1) p1) →
    (∀ x ∈ xs, ∀ p, α (s x) p = some (h x, p)) → ∃ (ys : List κ) (p' : π), ys.Sublist xs ∧ J (k + xs.length) p' ∧ lcGo own τ φ α (xs.map e) σ p = some (ys.map h, p')
  | [], k, p, _, hJ, _, _, _ => ⟨[], p, List.nil_sublist _, hJ, rfl⟩
  | x :: r, k, p, hn, hJ, h1, h2, h3 => by
    rw [List.length_cons] at hn
    obtain ⟨c, p1, hc, hJ1⟩ := h2 k (by omega) x List.mem_cons_self p hJ
    obtain ⟨ys, p', hs, hJ2, ih⟩ := lc_evoS e s h J n r (k + 1) p1 (by omega) hJ1 (fun y hy => h1 y (List.mem_cons_of_mem _ hy)) (fun i hi y hy => h2 i hi y (List.mem_cons_of_mem _ hy)) fun y hy => h3 y (List.mem_cons_of_mem _ hy)
    have hl : k + (x :: r).length = k + 1 + r.length := by rw [List.length_cons]; omega
    rw [hl]
    cases c with
    | true =>
      refine ⟨x :: ys, p', hs.cons₂ x, hJ2, ?_⟩
      rw [List.map_cons]
      unfold lcGo
      rw [h1 x List.mem_cons_self]
      simp only [hc, Option.bind_some, if_true, h3 x List.mem_cons_self p1, ih, Option.map_some, List.map_cons]
    | false =>
      refine ⟨ys, p', hs.cons x, hJ2, ?_⟩
      rw [List.map_cons]
      unfold lcGo
      rw [h1 x List.mem_cons_self]
      simp only [hc, Option.bind_some, Bool.false_eq_true, if_false, ih]
/-- a loop that may return -/
theorem loop_invR {ψ : SS π} (I : Nat → Sg → π → Prop) : ∀ (ds : List D) (k : Nat) (σ : Sg) (p : π), I k σ p →
    (∀ (i : Nat) (d : D) (σ : Sg) (p : π), ds[i]? = some d → I (k + i) σ p → ∃ σ1, τ d σ = some σ1 ∧ Ends ψ σ1 p fun o => (∃ σ2 p2, o = .nx σ2 p2 ∧ I (k + i + 1) σ2 p2) ∨ (∃ d p2, o = .rt d p2 ∧ R o)) →
    (∀ σ p, I (k + ds.length) σ p → R (.nx σ p)) → ∃ o, sLoop τ ψ ds σ p = some o ∧ R o
  | [], k, σ, p, h, _, hd => ⟨_, rfl, hd σ p h⟩
  | d :: r, k, σ, p, h, hs, hd => by
    obtain ⟨σ1, h1, o, h2, h3⟩ := hs 0 d σ p rfl h
    rcases h3 with ⟨σ2, p2, rfl, h3⟩ | ⟨d2, p2, rfl, h3⟩
    · have := loop_invR I r (k + 1) σ2 p2 h3 (fun i e σ p hi hI => by
        have := hs (i + 1) e σ p (by simpa using hi) (by rw [show k + (i + 1) = k + 1 + i by omega]; exact hI)
        rw [show k + (i + 1) + 1 = k + 1 + i + 1 by omega] at this
        exact this) fun σ p hI => hd σ p (by rw [List.length_cons, show k + (r.length + 1) = k + 1 + r.length by omega]; exact hI)
      obtain ⟨o, g1, g2⟩ := this
      refine ⟨o, ?_, g2⟩
      unfold sLoop
      rw [h1]
      simp only [h2]
      exact g1
    · refine ⟨_, ?_, h3⟩
      unfold sLoop
      rw [h1]
      simp only [h2]
theorem ends_forR {ψ : SS π} (I : Nat → Sg → π → Prop) (h0 : ω σ p = some (ds, p1)) (hI : I 0 σ p1)
    (hs : ∀ (i : Nat) (d : D) (σ : Sg) (p : π), ds[i]? = some d → I i σ p → ∃ σ1, τ d σ = some σ1 ∧ Ends ψ σ1 p fun o => (∃ σ2 p2, o = .nx σ2 p2 ∧ I (i + 1) σ2 p2) ∨ (∃ d p2, o = .rt d p2 ∧ R o))
    (hd : ∀ σ p, I ds.length σ p → R (.nx σ p)) : Ends (sFor ω τ ψ) σ p R := by
  obtain ⟨o, h1, h2⟩ := loop_invR (τ := τ) (ψ := ψ) (R := R) I ds 0 σ p1 hI (fun i d σ p hi h => by
    rw [Nat.zero_add] at h ⊢
    exact hs i d σ p hi h) fun σ p h => hd σ p (by rw [Nat.zero_add] at h; exact h)
  exact ⟨o, by unfold sFor; rw [h0]; exact h1, h2⟩
theorem ends_setP {ζ : SP π} (h : ζ σ p = some (d, σ1', p1)) (hR : R (.nx (σ1'.set i (.val d)) p1)) : Ends (sSetP i ζ) σ p R :=
  ⟨_, by unfold sSetP; rw [h]; rfl, hR⟩
theorem ends_appP {ζ : SP π} (h0 : σ[i]? = some (.own es)) (h : ζ σ p = some (d, σ1', p1)) (h1 : σ1'[i]? = some (.own ds)) (hl : ds.length < sizeLine) (hR : R (.nx (σ1'.set i (.own (ds ++ [d]))) p1)) : Ends (sAppP i ζ) σ p R :=
  ⟨_, by unfold sAppP; rw [h]; show (match σ[i]?, σ1'[i]? with | some (.own _), some (.own ds) => if ds.length < sizeLine then some (Out.nx (σ1'.set i (.own (ds ++ [d]))) p1) else none | _, _ => none) = _; rw [h0, h1]; exact if_pos hl, hR⟩
theorem ends_parLL {χ : SL π} (h1 : ω σ p = some (ds, p1)) (h2 : χ σ p1 = some (es, p2)) (hR : R (.nx ((σ.set i (.own ds)).set j (.own es)) p2)) : Ends (sParLL i j ω χ) σ p R :=
  ⟨_, by unfold sParLL; rw [h1]; show ((χ σ p1).map _) = _; rw [h2]; rfl, hR⟩
theorem o_none : oNone (π := π) σ p = some (none, p) := rfl
theorem o_some {n : Int} (h : α σ p = some (.int n, p1)) : oSome α σ p = some (some n, p1) := by unfold oSome; rw [h]; rfl
theorem e_slice {p3 : π} (h1 : α σ p = some (.tuple ds, p1)) (h2 : u σ p1 = some (lo, p2)) (h3 : v σ p2 = some (hi, p3)) : xSlice α u v σ p = some (.tuple (cutD ds lo hi), p3) := by
  unfold xSlice
  rw [h1]
  show ((u σ p1).bind _) = _
  rw [h2]
  show ((v σ p2).bind _) = _
  rw [h3]; rfl
theorem l_slice {p3 : π} (h1 : α σ p = some (.list ds, p1)) (h2 : u σ p1 = some (lo, p2)) (h3 : v σ p2 = some (hi, p3)) : lSlice α u v σ p = some (cutD ds lo hi, p3) := by
  unfold lSlice
  rw [h1]
  show ((u σ p1).bind _) = _
  rw [h2]
  show ((v σ p2).bind _) = _
  rw [h3]; rfl
theorem e_bor (h0 : σ[i]? = some (.own ds)) (h : α (borS i σ) p = some (d, p1)) (hf : flatD d = true) : xBor i α σ p = some (d, p1) := by
  unfold xBor
  rw [h0]
  show ((α (borS i σ) p).bind _) = _
  rw [h]
  exact if_pos hf
theorem t_bor {c : Bool} (h0 : σ[i]? = some (.own ds)) (h : φ (borS i σ) p = some (c, p1)) : xBorT i φ σ p = some (c, p1) := by
  unfold xBorT
  rw [h0]; exact h
theorem ends_asg {σ1 : Sg} (h : α σ p = some (d, p1)) (ht : τ d σ = some σ1) (hR : R (.nx σ1 p1)) : Ends (sAsg α τ) σ p R :=
  ⟨_, by unfold sAsg; rw [h]; show ((τ d σ).map _) = _; rw [ht]; rfl, hR⟩
theorem ends_par3 {p3 : π} (h1 : α σ p = some (x, p1)) (h2 : β σ p1 = some (y, p2)) (h3 : γ σ p2 = some (z, p3)) (hR : R (.nx (((σ.set i (.val x)).set j (.val y)).set l (.val z)) p3)) : Ends (sPar3 i j l α β γ) σ p R :=
  ⟨_, by unfold sPar3; rw [h1]; show ((β σ p1).bind _) = _; rw [h2]; show ((γ σ p2).map _) = _; rw [h3]; rfl, hR⟩
theorem ends_parLE (h1 : ω σ p = some (ds, p1)) (h2 : β σ p1 = some (y, p2)) (hR : R (.nx ((σ.set i (.own ds)).set j (.val y)) p2)) : Ends (sParLE i j ω β) σ p R :=
  ⟨_, by unfold sParLE; rw [h1]; show ((β σ p1).map _) = _; rw [h2]; rfl, hR⟩
theorem ends_parEL (h1 : α σ p = some (x, p1)) (h2 : ω σ p1 = some (ds, p2)) (hR : R (.nx ((σ.set j (.own ds)).set i (.val x)) p2)) : Ends (sParEL i j α ω) σ p R :=
  ⟨_, by unfold sParEL; rw [h1]; show ((ω σ p1).map _) = _; rw [h2]; rfl, hR⟩
theorem ends_pars (h1 : α σ p = some (x, p1)) (h2 : β σ p1 = some (y, p2)) (hR : R (.nx ((σ.set i (.val x)).set j (.val y)) p2)) : Ends (sPar i j α β) σ p R := ends_par (ev h1 (ev h2 hR))
end
theorem All2.right {κ ρ : Type} {P : ρ → Prop} : ∀ {xs : List κ} {ys : List ρ}, All2 (fun _ y => P y) xs ys → ∀ y ∈ ys, P y
  | _, _, .nil, y, h => by cases h
  | _, _, .cons g r, y, h => by
    rcases List.mem_cons.mp h with e | h
    · rw [e]; exact g
    · exact r.right y h
theorem sIx_of {n d : Nat} {k : Int} (h0 : 0 ≤ k) (h1 : k ≤ n) : HT.sIx n d (some k) = k.toNat := by
  simp only [HT.sIx]
  rw [if_neg (by omega)]
  omega
theorem cut_to {κ : Type} (f : κ → D) {l : List κ} {k : Int} (h0 : 0 ≤ k) (h1 : k ≤ l.length) : cutD (l.map f) none (some k) = (l.take k.toNat).map f := by
  unfold cutD
  rw [sIx_of h0 (by rw [List.length_map]; exact h1)]
  show List.take (k.toNat - 0) (List.drop 0 (l.map f)) = _
  rw [List.drop_zero, Nat.sub_zero, List.map_take]
theorem cut_from {κ : Type} (f : κ → D) {l : List κ} {k : Int} (h0 : 0 ≤ k) (h1 : k ≤ l.length) : cutD (l.map f) (some k) none = (l.drop k.toNat).map f := by
  unfold cutD
  rw [sIx_of h0 (by rw [List.length_map]; exact h1)]
  show List.take ((l.map f).length - k.toNat) (List.drop k.toNat (l.map f)) = _
  rw [← List.map_drop, List.take_of_length_le (by rw [List.length_map, List.length_map, List.length_drop]; exact Nat.le_refl _)]
theorem cut_upto {κ : Type} (f : κ → D) {l : List κ} {k : Int} (h0 : 0 ≤ k) : cutD (l.map f) none (some k) = (l.take k.toNat).map f := by
  by_cases h : k ≤ l.length
  · exact cut_to f h0 h
  · unfold cutD
    simp only [HT.sIx]
    rw [if_neg (by omega), List.take_of_length_le (l := l) (by omega), List.length_map]
    show List.take (min k.toNat l.length - 0) (List.drop 0 (l.map f)) = _
    rw [List.drop_zero, List.take_of_length_le (by rw [List.length_map]; omega)]
theorem add_tup {xs ys : List D} (h : xs.length + ys.length ≤ sizeLine) : fAdd (.tuple xs) (.tuple ys) = some (.tuple (xs ++ ys)) := by
  unfold fAdd
  exact if_pos h
theorem gt_t {a b : Int} (h : b < a) : fGt (.int a) (.int b) = some (.bool true) := by
  show some (PyData.bool (decide (b < a))) = _
  rw [decide_eq_true h]
theorem gt_f {a b : Int} (h : ¬ b < a) : fGt (.int a) (.int b) = some (.bool false) := by
  show some (PyData.bool (decide (b < a))) = _
  rw [decide_eq_false h]
theorem lt_t {a b : Int} (h : a < b) : fLt (.int a) (.int b) = some (.bool true) := by
  show some (PyData.bool (decide (a < b))) = _
  rw [decide_eq_true h]
theorem lt_f {a b : Int} (h : ¬ a < b) : fLt (.int a) (.int b) = some (.bool false) := by
  show some (PyData.bool (decide (a < b))) = _
  rw [decide_eq_false h]
theorem le_t {a b : Int} (h : a ≤ b) : fLe (.int a) (.int b) = some (.bool true) := by
  show some (PyData.bool (decide (a ≤ b))) = _
  rw [decide_eq_true h]
theorem le_f {a b : Int} (h : ¬ a ≤ b) : fLe (.int a) (.int b) = some (.bool false) := by
  show some (PyData.bool (decide (a ≤ b))) = _
  rw [decide_eq_false h]
theorem ge_t {a b : Int} (h : b ≤ a) : fGe (.int a) (.int b) = some (.bool true) := by
  show some (PyData.bool (decide (b ≤ a))) = _
  rw [decide_eq_true h]
theorem ge_f {a b : Int} (h : ¬ b ≤ a) : fGe (.int a) (.int b) = some (.bool false) := by
  show some (PyData.bool (decide (b ≤ a))) = _
  rw [decide_eq_false h]
theorem eq_t {a b : Int} (h : a = b) : fEq (.int a) (.int b) = some (.bool true) := by
  rw [eq_int, h, beq_self_eq_true]
theorem eq_f {a b : Int} (h : a ≠ b) : fEq (.int a) (.int b) = some (.bool false) := by
  rw [eq_int, beq_eq_false_iff_ne.mpr h]
theorem ne_t {a b : Int} (h : a ≠ b) : fNe (.int a) (.int b) = some (.bool true) := by
  rw [ne_int, beq_eq_false_iff_ne.mpr h]; rfl
theorem ne_f {a b : Int} (h : a = b) : fNe (.int a) (.int b) = some (.bool false) := by
  rw [ne_int, h, beq_self_eq_true]; rfl
theorem erase_map {κ ρ : Type} (f : κ → ρ) : ∀ (l : List κ) (k : Nat), (l.map f).eraseIdx k = (l.eraseIdx k).map f
  | [], _ => rfl
  | _ :: _, 0 => rfl
  | x :: r, k + 1 => by
    show f x :: (r.map f).eraseIdx k = f x :: (r.eraseIdx k).map f
    rw [erase_map f r k]
theorem p_popAt {π κ : Type} {α : SE π} {σ : Sg} {p p1 : π} {i : Nat} {l : List κ} {e : κ → D} {k : Int} (h : α σ p = some (.int k, p1)) (h0 : σ[i]? = some (.own (l.map e))) (k0 : 0 ≤ k) (k1 : k < l.length) (k2 : k < 2 ^ 63) :
    xPopAt i α σ p = some (e (l[k.toNat]'(by omega)), σ.set i (.own ((l.eraseIdx k.toNat).map e)), p1) := by
  unfold xPopAt
  rw [h]
  show (match σ[i]?, PyData.int k with
    | some (.own ds), .int n => if -(2 ^ 63) ≤ n ∧ n < 2 ^ 63 then (ixN ds.length n).bind fun k => (ds[k]?).map fun d => (d, σ.set i (.own (ds.eraseIdx k)), p1) else none
    | _, _ => none) = _
  rw [h0]
  show (if -(2 ^ 63) ≤ k ∧ k < 2 ^ 63 then _ else _) = _
  rw [if_pos (by omega), List.length_map, ixN_of k0 k1]
  show Option.map _ ((l.map e)[k.toNat]?) = _
  rw [List.getElem?_map, List.getElem?_eq_getElem (by omega), erase_map]; rfl
theorem cut_tail (d : D) (ds : List D) : cutD (d :: ds) (some 1) none = ds := by
  unfold cutD
  have h1 : HT.sIx (d :: ds).length 0 (some 1) = 1 := by
    simp only [HT.sIx]
    rw [if_neg (by decide)]
    simp
  have h2 : HT.sIx (d :: ds).length (d :: ds).length none = (d :: ds).length := rfl
  rw [h1, h2]
  simp
theorem Rp.intB {i : Int} {b : Nat} (h0 : 0 < b) (hb : b ≤ 1920) (h : i.natAbs < 2 ^ b) : Rp (.int i) (b + 2) 0 := by
  have h2 : i.natAbs.log2 < b := by
    by_cases z : i.natAbs = 0
    · rw [z]; simpa using h0
    · exact (Nat.log2_lt z).mpr h
  refine ⟨?_, rfl, Nat.le_refl _, ?_⟩
  · unfold PyData.showable
    exact decide_eq_true (by omega)
  · have := int_text_length_le (a := i) (k := b) h0 h2
    unfold PyData.shown
    exact Nat.le_trans (Nat.le_of_eq (PySem.ofString_length _)) (by omega)
end FL

namespace FL
open PySem PySem.Spec PyProof.Rows L2

/-! ### the drawing deck -/
def potKVC (g : Addr) (p : PotS) : List (Key × V) := [(Sum.inr "great", V.ref g), (Sum.inr "mixed", V.int p.a), (Sum.inr "turns", V.int p.b)]
def ZC : PotK PotS where
  fp := fun a g => [a, g]
  ok := fun a g H p => a ≠ g ∧ H a = some (.dK (potKVC g p)) ∧ H g = some (.lst (p.great.map .int)) ∧ p.great.length ≤ 63
  loc := fun a g H H' p h ⟨h0, h1, h2, h3⟩ => ⟨h0, by rw [h a (by simp)]; exact h1, by rw [h g (by simp)]; exact h2, h3⟩
  trk := fun a g H p ⟨h0, h1, h2, _⟩ b hb => by
    rcases List.mem_cons.mp hb with e | hb
    · rw [e, h1]; simp
    · rcases List.mem_cons.mp hb with e | hb
      · rw [e, h2]; simp
      · cases hb
def mixC1 (p : PotS) : Int := (p.a + 2654435761 * (p.b + 1)) % 4294967279
def mixC2 (p : PotS) : Int := (mixC1 p * mixC1 p + 40692 * (p.b + 1) + 23) % 4294967231
def mixC3 (p : PotS) : Int := (mixC2 p * mixC2 p + p.a * 11) % 4294967197
def drawC (p : PotS) (m : Int) : Int × PotS :=
  if m < 2 then (0, p) else
  match p.great.getLast? with
  | some c => (c % m, { p with great := drawG c m p.great.dropLast })
  | none => (mixC3 p / 64 % m, { p with b := p.b + 1 })
def drawFC (ds : List D) (p : PotS) : Option (D × PotS) := match ds with
  | [.int m] => if m < 2 ^ 200 then some (.int (drawC p m).1, (drawC p m).2) else none
  | _ => none
theorem drawC_lt (p : PotS) {m : Int} : 0 ≤ (drawC p m).1 ∧ (0 < m → (drawC p m).1 < m) := by
  unfold drawC
  split
  · exact ⟨Int.le_refl 0, fun h => h⟩
  · split
    · exact ⟨Int.emod_nonneg _ (by omega), fun h => Int.emod_lt_of_pos _ h⟩
    · exact ⟨Int.emod_nonneg _ (by omega), fun h => Int.emod_lt_of_pos _ h⟩
end FL

namespace FL
open PySem L2

/-! ### readings by simp -/
def Op {τ : Type} (o : Option τ) (R : τ → Prop) : Prop := ∃ z, o = some z ∧ R z
def VarS (σ : Sg) (i : Nat) (R : D → Prop) : Prop := ∃ d, σ[i]? = some (.val d) ∧ R d
def OwnS (σ : Sg) (i : Nat) (R : List D → Prop) : Prop := ∃ ds, σ[i]? = some (.own ds) ∧ R ds
def PotS' (σ : Sg) (i : Nat) (P : Prop) : Prop := σ[i]? = some .pot ∧ P
def FzS (σ : Sg) (i : Nat) (f : List D → Prop) (g : Prop) : Prop := match σ[i]? with
  | some (.own ds) => f ds
  | _ => g
def BoolS (d : D) (R : Bool → Prop) : Prop := ∃ b, d = .bool b ∧ R b
def IntS (d : D) (R : Int → Prop) : Prop := ∃ i, d = .int i ∧ R i
def ListS (d : D) (R : List D → Prop) : Prop := ∃ ds, d = .list ds ∧ R ds
def IteB (b : Bool) (P Q : Prop) : Prop := (b = true → P) ∧ (b = false → Q)
def Szd (ds : List D) (P : Prop) : Prop := ds.length ≤ sizeLine ∧ P
def EvZ {π : Type} (g : π → Option (D × π)) (p : π) (R : D → π → Prop) : Prop := ∃ d p', g p = some (d, p') ∧ R d p'
def SeqR {π : Type} (χ : SS π) (R : Out π → Prop) : Out π → Prop
  | .nx σ p => Ends χ σ p R
  | o => R o
section
variable {τ : Type} {o : Option τ} {z : τ} {R : τ → Prop}
theorem op_some : Op (some z) R ↔ R z := ⟨fun ⟨_, h, k⟩ => by cases h; exact k, fun h => ⟨z, rfl, h⟩⟩
theorem seqR_go {π : Type} {χ : SS π} {R : Out π → Prop} {σ : Sg} {p : π} (h : Ends χ σ p R) : SeqR χ R (.nx σ p) := h
theorem op_of (h : o = some z) (k : R z) : Op o R := ⟨z, h, k⟩
theorem op_map {ρ : Type} {f : ρ → τ} {o : Option ρ} : Op (o.map f) R ↔ Op o fun z => R (f z) := by
  cases o with
  | none => exact ⟨fun ⟨_, h, _⟩ => (by cases h), fun ⟨_, h, _⟩ => by cases h⟩
  | some a => exact ⟨fun ⟨_, h, k⟩ => by cases h; exact ⟨_, rfl, k⟩, fun ⟨_, h, k⟩ => by cases h; exact ⟨_, rfl, k⟩⟩
theorem op_bind {ρ : Type} {f : ρ → Option τ} {o : Option ρ} : Op (o.bind f) R ↔ Op o fun z => Op (f z) R := by
  cases o with
  | none => exact ⟨fun ⟨_, h, _⟩ => (by cases h), fun ⟨_, h, _⟩ => by cases h⟩
  | some a => exact ⟨fun ⟨y, h, k⟩ => ⟨a, rfl, y, h, k⟩, fun ⟨_, h, k⟩ => by cases h; exact k⟩
end
section
variable {d e : D} {ds es : List D} {P Q : Prop} {b c : Bool} {s : Sl} {σ : Sg} {n i : Nat}
theorem varS_0 {R : D → Prop} : VarS (.val d :: σ) 0 R ↔ R d := ⟨fun ⟨_, h, k⟩ => by cases h; exact k, fun h => ⟨d, rfl, h⟩⟩
theorem varS_s {R : D → Prop} : VarS (s :: σ) (n + 1) R ↔ VarS σ n R := Iff.rfl
theorem ownS_0 {R : List D → Prop} : OwnS (.own ds :: σ) 0 R ↔ R ds := ⟨fun ⟨_, h, k⟩ => by cases h; exact k, fun h => ⟨ds, rfl, h⟩⟩
theorem ownS_s {R : List D → Prop} : OwnS (s :: σ) (n + 1) R ↔ OwnS σ n R := Iff.rfl
theorem fzS_o {f : List D → Prop} : FzS (.own ds :: σ) 0 f P ↔ f ds := Iff.rfl
theorem fzS_v {f : List D → Prop} : FzS (.val d :: σ) 0 f P ↔ P := Iff.rfl
theorem fzS_u {f : List D → Prop} : FzS (.un :: σ) 0 f P ↔ P := Iff.rfl
theorem fzS_p {f : List D → Prop} : FzS (.pot :: σ) 0 f P ↔ P := Iff.rfl
theorem fzS_s {f : List D → Prop} : FzS (s :: σ) (n + 1) f P ↔ FzS σ n f P := Iff.rfl
theorem potS_0 : PotS' (.pot :: σ) 0 P ↔ P := ⟨fun h => h.2, fun h => ⟨rfl, h⟩⟩
theorem potS_s : PotS' (s :: σ) (n + 1) P ↔ PotS' σ n P := Iff.rfl
theorem boolS_b {R : Bool → Prop} : BoolS (.bool b) R ↔ R b := ⟨fun ⟨_, h, k⟩ => by cases h; exact k, fun h => ⟨b, rfl, h⟩⟩
theorem intS_i {j : Int} {R : Int → Prop} : IntS (.int j) R ↔ R j := ⟨fun ⟨_, h, k⟩ => by cases h; exact k, fun h => ⟨j, rfl, h⟩⟩
theorem listS_l {R : List D → Prop} : ListS (.list ds) R ↔ R ds := ⟨fun ⟨_, h, k⟩ => by cases h; exact k, fun h => ⟨ds, rfl, h⟩⟩
theorem iteB_t : IteB true P Q ↔ P := ⟨fun h => h.1 rfl, fun h => ⟨fun _ => h, fun z => by cases z⟩⟩
theorem iteB_f : IteB false P Q ↔ Q := ⟨fun h => h.2 rfl, fun h => ⟨fun z => (by cases z), fun _ => h⟩⟩
theorem iteB_n : IteB (!b) P Q ↔ IteB b Q P := by cases b <;> simp [iteB_t, iteB_f]
theorem iteB {p : Prop} [Decidable p] (h : p → P) (h2 : ¬ p → Q) : IteB (decide p) P Q := ⟨fun z => h (of_decide_eq_true z), fun z => h2 (of_decide_eq_false z)⟩
theorem iteB_y {p : Prop} [Decidable p] (h : p) (k : P) : IteB (decide p) P Q := iteB (fun _ => k) fun z => absurd h z
theorem iteB_no {p : Prop} [Decidable p] (h : ¬ p) (k : Q) : IteB (decide p) P Q := iteB (fun z => absurd z h) fun _ => k
theorem szd_of (h : ds.length ≤ sizeLine) : Szd ds P ↔ P := ⟨fun k => k.2, fun k => ⟨h, k⟩⟩
theorem seqR_nx {π : Type} {χ : SS π} {R : Out π → Prop} {p : π} : SeqR χ R (.nx σ p) = Ends χ σ p R := rfl
theorem seqR_rt {π : Type} {χ : SS π} {R : Out π → Prop} {p : π} : SeqR χ R (.rt d p) = R (.rt d p) := rfl
theorem seqR_bk {π : Type} {χ : SS π} {R : Out π → Prop} {p : π} : SeqR χ R (.bk σ p) = R (.bk σ p) := rfl
theorem seqR_ct {π : Type} {χ : SS π} {R : Out π → Prop} {p : π} : SeqR χ R (.ct σ p) = R (.ct σ p) := rfl
end
section
variable {π : Type} {ψ χ : SS π} {φ φ' : SB π} {α β γ : SE π} {ω ω' : SL π} {u v : SO π} {ζ : SP π} {σ : Sg} {p : π} {i j l n k m : Nat} {f g : D → D → Option D}
section
variable {R : D → π → Prop} {RB : Bool → π → Prop} {RL : List D → π → Prop}
theorem w_var : EvE (xVar i) σ p R ↔ VarS σ i fun d => R d p := by
  unfold EvE xVar VarS
  constructor
  · rintro ⟨d, p', h, k⟩
    split at h
    · rename_i q; cases h; exact ⟨_, q, k⟩
    · cases h
  · rintro ⟨d, h, k⟩
    exact ⟨d, p, by rw [h], k⟩
theorem w_c {d : D} : EvE (xC d) σ p R ↔ R d p := ⟨fun ⟨_, _, h, k⟩ => by cases h; exact k, fun h => ⟨d, p, rfl, h⟩⟩
theorem ev_bind {τ ρ : Type} {o : Option (τ × π)} {f : τ × π → Option (ρ × π)} {R : ρ → π → Prop} : (∃ d p', o.bind f = some (d, p') ∧ R d p') ↔ ∃ x q, o = some (x, q) ∧ ∃ d p', f (x, q) = some (d, p') ∧ R d p' := by
  cases o with
  | none => exact ⟨fun ⟨_, _, h, _⟩ => (by cases h), fun ⟨_, _, h, _⟩ => by cases h⟩
  | some a => exact ⟨fun ⟨d, p', h, k⟩ => ⟨a.1, a.2, rfl, d, p', h, k⟩, fun ⟨x, q, h, d, p', h2, k⟩ => by cases h; exact ⟨d, p', h2, k⟩⟩
theorem ev_map {τ ρ : Type} {o : Option τ} {f : τ → ρ × π} {R : ρ → π → Prop} : (∃ d p', o.map f = some (d, p') ∧ R d p') ↔ Op o fun z => R (f z).1 (f z).2 := by
  cases o with
  | none => exact ⟨fun ⟨_, _, h, _⟩ => (by cases h), fun ⟨_, h, _⟩ => by cases h⟩
  | some a => exact ⟨fun ⟨d, p', h, k⟩ => ⟨a, rfl, by have h := Option.some.inj h; show R (f a).1 (f a).2; rw [h]; exact k⟩, fun ⟨x, h, k⟩ => by cases h; exact ⟨_, _, rfl, k⟩⟩
theorem ev_map2 {τ ρ : Type} {o : Option (τ × π)} {f : τ × π → ρ × π} {R : ρ → π → Prop} : (∃ d p', o.map f = some (d, p') ∧ R d p') ↔ ∃ x q, o = some (x, q) ∧ R (f (x, q)).1 (f (x, q)).2 := by
  cases o with
  | none => exact ⟨fun ⟨_, _, h, _⟩ => (by cases h), fun ⟨_, _, h, _⟩ => by cases h⟩
  | some a => exact ⟨fun ⟨d, p', h, k⟩ => ⟨a.1, a.2, rfl, by have h := Option.some.inj h; show R (f a).1 (f a).2; rw [h]; exact k⟩, fun ⟨x, q, h, k⟩ => by cases h; exact ⟨_, _, rfl, k⟩⟩
theorem w_bin : EvE (xBin f α β) σ p R ↔ EvE α σ p fun x p1 => EvE β σ p1 fun y p2 => Op (f x y) fun z => R z p2 := by
  unfold EvE xBin; simp only [ev_bind, ev_map]
theorem w_un {f : D → Option D} : EvE (xUn f α) σ p R ↔ EvE α σ p fun x p1 => Op (f x) fun z => R z p1 := by
  unfold EvE xUn; simp only [ev_bind, ev_map]
theorem w_lbin {f : D → D → Option (List D)} : EvE (lBin f α β) σ p RL ↔ EvE α σ p fun x p1 => EvE β σ p1 fun y p2 => Op (f x y) fun z => RL z p2 := by
  unfold EvE lBin; simp only [ev_bind, ev_map]
theorem w_test : EvE (xTest α) σ p RB ↔ EvE α σ p fun x p1 => BoolS x fun b => RB b p1 := by
  unfold EvE xTest
  rw [ev_bind]
  refine exists_congr fun x => exists_congr fun q => and_congr_right fun _ => ?_
  cases x with
  | bool c => exact ⟨fun ⟨_, _, h, k⟩ => (by cases h; exact ⟨_, rfl, k⟩), fun ⟨_, h, k⟩ => by cases h; exact ⟨_, _, rfl, k⟩⟩
  | _ => exact ⟨fun ⟨_, _, h, _⟩ => (by cases h), fun ⟨_, h, _⟩ => by cases h⟩
theorem ite_ev {τ : Type} {b : Bool} {x y : Option (τ × π)} {R : τ → π → Prop} : (∃ d p', (if b = true then x else y) = some (d, p') ∧ R d p') ↔ IteB b (∃ d p', x = some (d, p') ∧ R d p') (∃ d p', y = some (d, p') ∧ R d p') := by
  cases b <;> simp [iteB_t, iteB_f]
theorem ev_some {τ : Type} {x : τ} {q : π} {R : τ → π → Prop} : (∃ d p', some (x, q) = some (d, p') ∧ R d p') ↔ R x q := ⟨fun ⟨_, _, h, k⟩ => by cases h; exact k, fun k => ⟨_, _, rfl, k⟩⟩
theorem ev_none {τ : Type} {R : τ → π → Prop} : (∃ d p', (none : Option (τ × π)) = some (d, p') ∧ R d p') ↔ False := ⟨fun ⟨_, _, h, k⟩ => (by cases h), fun k => k.elim⟩
theorem w_and : EvE (xAnd φ φ') σ p RB ↔ EvE φ σ p fun b p1 => IteB b (EvE φ' σ p1 RB) (RB false p1) := by
  unfold EvE xAnd; simp only [ev_bind, ite_ev, ev_some]
theorem w_or : EvE (xOr φ φ') σ p RB ↔ EvE φ σ p fun b p1 => IteB b (RB true p1) (EvE φ' σ p1 RB) := by
  unfold EvE xOr; simp only [ev_bind, ite_ev, ev_some]
theorem w_not : EvE (xNot φ) σ p RB ↔ EvE φ σ p fun b p1 => RB (!b) p1 := by
  unfold EvE xNot; simp only [ev_map2]
theorem w_yes : EvE xYes σ p RB ↔ RB true p := ev_some
theorem w_if : EvE (xIf φ α β) σ p R ↔ EvE φ σ p fun b p1 => IteB b (EvE α σ p1 R) (EvE β σ p1 R) := by
  unfold EvE xIf; simp only [ev_bind, ite_ev]
theorem w_ifL : EvE (xIfL φ ω ω') σ p RL ↔ EvE φ σ p fun b p1 => IteB b (EvE ω σ p1 RL) (EvE ω' σ p1 RL) := by
  unfold EvE xIfL; simp only [ev_bind, ite_ev]
theorem w_andV : EvE (xAndV α β) σ p R ↔ EvE α σ p fun x p1 => BoolS x fun b => IteB b (EvE β σ p1 R) (R (.bool false) p1) := by
  unfold EvE xAndV
  rw [ev_bind]
  refine exists_congr fun x => exists_congr fun q => and_congr_right fun _ => ?_
  cases x with
  | bool c =>
    cases c with
    | true => exact (boolS_b.trans iteB_t).symm
    | false => exact ev_some.trans (boolS_b.trans iteB_f).symm
  | _ => exact ⟨fun ⟨_, _, h, _⟩ => (by cases h), fun ⟨_, h, _⟩ => by cases h⟩
theorem w_orV : EvE (xOrV α β) σ p R ↔ EvE α σ p fun x p1 => BoolS x fun b => IteB b (R (.bool true) p1) (EvE β σ p1 R) := by
  unfold EvE xOrV
  rw [ev_bind]
  refine exists_congr fun x => exists_congr fun q => and_congr_right fun _ => ?_
  cases x with
  | bool c =>
    cases c with
    | true => exact ev_some.trans (boolS_b.trans iteB_t).symm
    | false => exact (boolS_b.trans iteB_f).symm
  | _ => exact ⟨fun ⟨_, _, h, _⟩ => (by cases h), fun ⟨_, h, _⟩ => by cases h⟩
theorem w_notV : EvE (xNotV α) σ p R ↔ EvE α σ p fun x p1 => BoolS x fun b => R (.bool (!b)) p1 := by
  unfold EvE xNotV
  rw [ev_bind]
  refine exists_congr fun x => exists_congr fun q => and_congr_right fun _ => ?_
  cases x with
  | bool c => exact ev_some.trans (boolS_b (R := fun b => R (.bool (!b)) q)).symm
  | _ => exact ⟨fun ⟨_, _, h, _⟩ => (by cases h), fun ⟨_, h, _⟩ => by cases h⟩
theorem w_chain : EvE (xChain f g α β γ) σ p R ↔ EvE α σ p fun x p1 => EvE β σ p1 fun y p2 => Op (f x y) fun c => BoolS c fun b => IteB b (EvE γ σ p2 fun z p3 => Op (g y z) fun w => R w p3) (R (.bool false) p2) := by
  unfold EvE xChain
  rw [ev_bind]
  refine exists_congr fun x => exists_congr fun q => and_congr_right fun _ => ?_
  rw [ev_bind]
  refine exists_congr fun y => exists_congr fun q2 => and_congr_right fun _ => ?_
  show (∃ d p', Option.bind (f x y) _ = some (d, p') ∧ R d p') ↔ Op (f x y) _
  cases f x y with
  | none => exact ⟨fun ⟨_, _, h, _⟩ => (by cases h), fun ⟨_, h, _⟩ => by cases h⟩
  | some c =>
    cases c with
    | bool c =>
      cases c with
      | true =>
        rw [op_some]
        rw [boolS_b, iteB_t]
        show (∃ d p', Option.bind (γ σ q2) _ = some (d, p') ∧ R d p') ↔ _
        rw [ev_bind]
        simp only [ev_map]
      | false =>
        rw [op_some]
        rw [boolS_b, iteB_f]
        exact ev_some
    | _ => exact ⟨fun ⟨_, _, h, _⟩ => (by cases h), fun ⟨_, h, k⟩ => by cases h; obtain ⟨_, h, _⟩ := k; cases h⟩
theorem w_nil : EvE aNil σ p RL ↔ RL [] p := ev_some
theorem w_cons : EvE (aCons α ω) σ p RL ↔ EvE α σ p fun x p1 => EvE ω σ p1 fun ds p2 => RL (x :: ds) p2 := by
  unfold EvE aCons; simp only [ev_bind, ev_map2]
theorem szd_ev {τ : Type} {ds : List D} {x : τ} {q : π} {R : τ → π → Prop} : (∃ d p', (if ds.length ≤ sizeLine then some (x, q) else none) = some (d, p') ∧ R d p') ↔ Szd ds (R x q) := by
  unfold Szd
  by_cases h : ds.length ≤ sizeLine
  · rw [if_pos h]; exact ev_some.trans ⟨fun k => ⟨h, k⟩, fun k => k.2⟩
  · rw [if_neg h]; exact ev_none.trans ⟨fun k => k.elim, fun k => h k.1⟩
theorem w_tup : EvE (xTup ω) σ p R ↔ EvE ω σ p fun ds p1 => Szd ds (R (.tuple ds) p1) := by
  unfold EvE xTup; simp only [ev_bind, szd_ev]
theorem w_disp : EvE (lDisp ω) σ p RL ↔ EvE ω σ p fun ds p1 => Szd ds (RL ds p1) := by
  unfold EvE lDisp; simp only [ev_bind, szd_ev]
theorem w_L : EvE (xLst ω) σ p R ↔ EvE ω σ p fun ds p1 => R (.list ds) p1 := by
  unfold EvE xLst; simp only [ev_map2]
theorem w_call {f : List D → Option D} : EvE (xCall f ω) σ p R ↔ EvE ω σ p fun ds p1 => Op (f ds) fun z => R z p1 := by
  unfold EvE xCall; simp only [ev_bind, ev_map]
theorem w_lcall {f : List D → Option (List D)} : EvE (lCall f ω) σ p RL ↔ EvE ω σ p fun ds p1 => Op (f ds) fun z => RL z p1 := by
  unfold EvE lCall; simp only [ev_bind, ev_map]
theorem w_iby {f : List D → Option (List D)} : EvE (iBy f ω) σ p RL ↔ EvE ω σ p fun ds p1 => Op (f ds) fun z => RL z p1 := by
  unfold EvE iBy; simp only [ev_bind, ev_map]
theorem w_iof : EvE (iOf α) σ p RL ↔ EvE α σ p fun x p1 => Op (items x) fun z => RL z p1 := by
  unfold EvE iOf; simp only [ev_bind, ev_map]
theorem w_lrng : EvE (lRng α) σ p RL ↔ EvE α σ p fun x p1 => Op (fLstRng x) fun z => RL z p1 := by
  unfold EvE lRng; simp only [ev_bind, ev_map]
theorem w_onone {R : Option Int → π → Prop} : EvE oNone σ p R ↔ R none p := ev_some
theorem w_osome {R : Option Int → π → Prop} : EvE (oSome α) σ p R ↔ EvE α σ p fun x p1 => IntS x fun i => R (some i) p1 := by
  unfold EvE oSome
  rw [ev_bind]
  refine exists_congr fun x => exists_congr fun q => and_congr_right fun _ => ?_
  cases x with
  | int c => exact ev_some.trans (intS_i (R := fun i => R (some i) q)).symm
  | _ => exact ⟨fun ⟨_, _, h, _⟩ => (by cases h), fun ⟨_, h, _⟩ => by cases h⟩
theorem w_slice : EvE (xSlice α u v) σ p R ↔ EvE α σ p fun x p1 => EvE u σ p1 fun lo p2 => EvE v σ p2 fun hi p3 => Op (fSlice x lo hi) fun z => R z p3 := by
  unfold EvE xSlice; simp only [ev_bind, ev_map]
theorem w_lslice : EvE (lSlice α u v) σ p RL ↔ EvE α σ p fun x p1 => EvE u σ p1 fun lo p2 => EvE v σ p2 fun hi p3 => Op (fSliceL x lo hi) fun z => RL z p3 := by
  unfold EvE lSlice; simp only [ev_bind, ev_map]
theorem w_bor : EvE (xBor i α) σ p R ↔ OwnS σ i fun _ => EvE α (borS i σ) p fun d p1 => flatD d = true ∧ R d p1 := by
  unfold EvE xBor OwnS
  constructor
  · rintro ⟨d, p', h, k⟩
    split at h
    · rename_i ds q
      obtain ⟨x, h1, h2⟩ := bnd h
      split at h2
      · rename_i hf; cases h2; exact ⟨_, q, _, _, h1, hf, k⟩
      · cases h2
    · cases h
  · rintro ⟨ds, q, d, p', h1, hf, k⟩
    exact ⟨d, p', by rw [q]; show Option.bind (α (borS i σ) p) _ = _; rw [h1]; exact if_pos hf, k⟩
theorem w_borT : EvE (xBorT i φ) σ p RB ↔ OwnS σ i fun _ => EvE φ (borS i σ) p RB := by
  unfold EvE xBorT OwnS
  constructor
  · rintro ⟨d, p', h, k⟩
    split at h
    · rename_i ds q; exact ⟨_, q, _, _, h, k⟩
    · cases h
  · rintro ⟨ds, q, d, p', h1, k⟩
    exact ⟨d, p', by rw [q]; exact h1, k⟩
theorem w_funZ {f : List D → π → Option (D × π)} : EvE (xFunZ n i f ω) σ p R ↔ PotS' σ i (EvE ω σ p fun ds p1 => ds.length + 1 = n ∧ EvZ (f ds) p1 R) := by
  unfold EvE xFunZ PotS' EvZ
  constructor
  · rintro ⟨d, p', h, k⟩
    split at h
    · rename_i q
      obtain ⟨x, h1, h2⟩ := bnd h
      split at h2
      · rename_i hl; exact ⟨q, _, _, h1, hl, _, _, h2, k⟩
      · cases h2
    · cases h
  · rintro ⟨q, ds, p1, h1, hl, d, p', h2, k⟩
    exact ⟨d, p', by rw [q]; show Option.bind (ω σ p) _ = _; rw [h1]; show (if ds.length + 1 = n then _ else _) = _; rw [if_pos hl]; exact h2, k⟩
end
section
variable {R : Out π → Prop}
theorem w_snil : Ends sNil σ p R ↔ R (.nx σ p) := op_some
theorem w_brk : Ends sBrk σ p R ↔ R (.bk σ p) := op_some
theorem w_cnt : Ends sCnt σ p R ↔ R (.ct σ p) := op_some
theorem w_retN : Ends sRetN σ p R ↔ R (.rt .none p) := op_some
theorem w_seq : Ends (sSeq ψ χ) σ p R ↔ Ends ψ σ p (SeqR χ R) := by
  unfold Ends sSeq
  constructor
  · rintro ⟨o, h, k⟩
    cases h2 : ψ σ p with
    | none => rw [h2] at h; cases h
    | some o2 =>
      rw [h2] at h
      refine ⟨o2, rfl, ?_⟩
      cases o2 with
      | nx σ' p' => exact ⟨o, h, k⟩
      | _ => cases h; exact k
  · rintro ⟨o, h, k⟩
    rw [h]
    cases o with
    | nx σ' p' => exact k
    | _ => exact ⟨_, rfl, k⟩
theorem ends_map {τ : Type} {o : Option τ} {f : τ → Out π} : (∃ x, o.map f = some x ∧ R x) ↔ ∃ x, o = some x ∧ R (f x) := by
  cases o with
  | none => exact ⟨fun ⟨_, h, _⟩ => (by cases h), fun ⟨_, h, _⟩ => by cases h⟩
  | some a => exact ⟨fun ⟨d, h, k⟩ => by cases h; exact ⟨a, rfl, k⟩, fun ⟨x, h, k⟩ => by cases h; exact ⟨_, rfl, k⟩⟩
theorem ends_bind {τ : Type} {o : Option τ} {f : τ → Option (Out π)} : (∃ x, o.bind f = some x ∧ R x) ↔ ∃ y, o = some y ∧ ∃ x, f y = some x ∧ R x := by
  cases o with
  | none => exact ⟨fun ⟨_, h, _⟩ => (by cases h), fun ⟨_, h, _⟩ => by cases h⟩
  | some a => exact ⟨fun ⟨d, h, k⟩ => ⟨a, rfl, d, h, k⟩, fun ⟨x, h, d, h2, k⟩ => by cases h; exact ⟨d, h2, k⟩⟩
theorem ev_pair {τ : Type} {o : Option (τ × π)} {R : τ × π → Prop} : (∃ x, o = some x ∧ R x) ↔ ∃ d p', o = some (d, p') ∧ R (d, p') := ⟨fun ⟨x, h, k⟩ => ⟨x.1, x.2, h, k⟩, fun ⟨d, p', h, k⟩ => ⟨_, h, k⟩⟩
theorem w_set : Ends (sSet i α) σ p R ↔ EvE α σ p fun d p1 => R (.nx (σ.set i (.val d)) p1) := by
  unfold Ends sSet EvE; rw [ends_map, ev_pair]
theorem w_setL : Ends (sSetL i ω) σ p R ↔ EvE ω σ p fun d p1 => R (.nx (σ.set i (.own d)) p1) := by
  unfold Ends sSetL EvE; rw [ends_map, ev_pair]
theorem w_ret : Ends (sRet α) σ p R ↔ EvE α σ p fun d p1 => R (.rt d p1) := by
  unfold Ends sRet EvE; rw [ends_map, ev_pair]
theorem w_drop : Ends (sDrop α) σ p R ↔ EvE α σ p fun d p1 => R (.nx σ p1) := by
  unfold Ends sDrop EvE; rw [ends_map, ev_pair]
theorem w_sif : Ends (sIf φ ψ χ) σ p R ↔ EvE φ σ p fun b p1 => IteB b (Ends ψ σ p1 R) (Ends χ σ p1 R) := by
  unfold Ends sIf EvE
  rw [ends_bind, ev_pair]
  refine exists_congr fun b => exists_congr fun q => and_congr_right fun _ => ?_
  cases b
  · exact iteB_f.symm
  · exact iteB_t.symm
theorem w_par : Ends (sPar i j α β) σ p R ↔ EvE α σ p fun d p1 => EvE β σ p1 fun e p2 => R (.nx ((σ.set i (.val d)).set j (.val e)) p2) := by
  unfold Ends sPar EvE
  rw [ends_bind, ev_pair]
  refine exists_congr fun b => exists_congr fun q => and_congr_right fun _ => ?_
  rw [ends_map, ev_pair]
theorem w_par3 : Ends (sPar3 i j l α β γ) σ p R ↔ EvE α σ p fun d p1 => EvE β σ p1 fun e p2 => EvE γ σ p2 fun z p3 => R (.nx (((σ.set i (.val d)).set j (.val e)).set l (.val z)) p3) := by
  unfold Ends sPar3 EvE
  rw [ends_bind, ev_pair]
  refine exists_congr fun b => exists_congr fun q => and_congr_right fun _ => ?_
  rw [ends_bind, ev_pair]
  refine exists_congr fun b => exists_congr fun q => and_congr_right fun _ => ?_
  rw [ends_map, ev_pair]
theorem w_parLE : Ends (sParLE i j ω β) σ p R ↔ EvE ω σ p fun d p1 => EvE β σ p1 fun e p2 => R (.nx ((σ.set i (.own d)).set j (.val e)) p2) := by
  unfold Ends sParLE EvE
  rw [ends_bind, ev_pair]
  refine exists_congr fun b => exists_congr fun q => and_congr_right fun _ => ?_
  rw [ends_map, ev_pair]
theorem w_parEL : Ends (sParEL i j α ω) σ p R ↔ EvE α σ p fun d p1 => EvE ω σ p1 fun e p2 => R (.nx ((σ.set j (.own e)).set i (.val d)) p2) := by
  unfold Ends sParEL EvE
  rw [ends_bind, ev_pair]
  refine exists_congr fun b => exists_congr fun q => and_congr_right fun _ => ?_
  rw [ends_map, ev_pair]
theorem w_parLL : Ends (sParLL i j ω ω') σ p R ↔ EvE ω σ p fun d p1 => EvE ω' σ p1 fun e p2 => R (.nx ((σ.set i (.own d)).set j (.own e)) p2) := by
  unfold Ends sParLL EvE
  rw [ends_bind, ev_pair]
  refine exists_congr fun b => exists_congr fun q => and_congr_right fun _ => ?_
  rw [ends_map, ev_pair]
theorem w_asg {τ : D → Sg → Option Sg} : Ends (sAsg α τ) σ p R ↔ EvE α σ p fun d p1 => Op (τ d σ) fun σ1 => R (.nx σ1 p1) := by
  unfold Ends sAsg EvE
  rw [ends_bind, ev_pair]
  refine exists_congr fun b => exists_congr fun q => and_congr_right fun _ => ?_
  rw [ends_map]; rfl
theorem w_fz {ds : List D} (h : σ[i]? = some (.own ds)) : Ends (sFz i ψ) σ p R ↔ Ends ψ (σ.set i (.val (.list ds))) p R := by
  unfold Ends sFz; rw [h]
theorem w_fz' : OwnS σ i (fun ds => Ends ψ (σ.set i (.val (.list ds))) p R) → Ends (sFz i ψ) σ p R := fun ⟨ds, h, k⟩ => (w_fz h).mpr k
theorem w_app : Ends (sApp i α) σ p R ↔ EvE α σ p fun d p1 => OwnS σ i fun ds => ds.length < sizeLine ∧ R (.nx (σ.set i (.own (ds ++ [d]))) p1) := by
  unfold Ends sApp EvE OwnS
  rw [ends_bind, ev_pair]
  refine exists_congr fun b => exists_congr fun q => and_congr_right fun _ => ?_
  constructor
  · rintro ⟨x, h, k⟩
    split at h
    · rename_i ds e
      split at h
      · rename_i hl; cases h; exact ⟨ds, e, hl, k⟩
      · cases h
    · cases h
  · rintro ⟨ds, e, hl, k⟩
    exact ⟨_, by rw [e]; exact if_pos hl, k⟩
theorem w_ext : Ends (sExt i α) σ p R ↔ EvE α σ p fun d p1 => OwnS σ i fun ds => ListS d fun es => ds.length + es.length ≤ sizeLine ∧ R (.nx (σ.set i (.own (ds ++ es))) p1) := by
  unfold Ends sExt EvE OwnS ListS
  rw [ends_bind, ev_pair]
  refine exists_congr fun b => exists_congr fun q => and_congr_right fun _ => ?_
  constructor
  · rintro ⟨x, h, k⟩
    split at h
    · rename_i ds es e1 e2
      split at h
      · rename_i hl; cases h; exact ⟨ds, e1, es, e2, hl, k⟩
      · cases h
    · cases h
  · rintro ⟨ds, e1, es, e2, hl, k⟩
    refine ⟨_, ?_, k⟩
    rw [e1]
    subst e2
    exact if_pos hl
theorem w_put {β : SE π} : Ends (sPut i β α) σ p R ↔ EvE α σ p fun d p1 => EvE β σ p1 fun e p2 => OwnS σ i fun ds => IntS e fun k => Op (ixN ds.length k) fun j => R (.nx (σ.set i (.own (ds.set j d))) p2) := by
  unfold Ends sPut EvE OwnS IntS
  rw [ends_bind, ev_pair]
  refine exists_congr fun b => exists_congr fun q => and_congr_right fun _ => ?_
  rw [ends_bind, ev_pair]
  refine exists_congr fun e => exists_congr fun q2 => and_congr_right fun _ => ?_
  constructor
  · rintro ⟨x, h, k⟩
    split at h
    · rename_i ds n e1 e2
      obtain ⟨y, h1, rfl⟩ := mpd h
      exact ⟨ds, e1, n, e2, y, h1, k⟩
    · cases h
  · rintro ⟨ds, e1, n, e2, y, h1, k⟩
    refine ⟨_, ?_, k⟩
    rw [e1]
    subst e2
    show Option.map _ (ixN ds.length n) = _
    rw [h1]; rfl
theorem w_fzS : Ends (sFz i ψ) σ p R ↔ FzS σ i (fun ds => Ends ψ (σ.set i (.val (.list ds))) p R) (Ends ψ σ p R) := by
  unfold Ends sFz FzS
  cases h : σ[i]? with
  | none => exact Iff.rfl
  | some s => cases s <;> exact Iff.rfl
theorem w_move {ds : List D} (h : σ[j]? = some (.own ds)) (hn : i ≠ j) : Ends (sMove i j) σ p R ↔ R (.nx ((σ.set j .un).set i (.own ds)) p) := by
  unfold Ends sMove; rw [h]
  show (∃ o, (if i = j then none else some _) = some o ∧ R o) ↔ _
  rw [if_neg hn]; exact op_some
end
end
end FL

namespace FL
open PySem L2

abbrev tI (ns : List Int) : D := .tuple (ns.map .int)
abbrev lI (ns : List Int) : D := .list (ns.map .int)
abbrev tT (l : List (List Int)) : D := .tuple (l.map dT)
abbrev lT (l : List (List Int)) : D := .list (l.map dT)
theorem dT_eq (ns : List Int) : dT ns = .tuple (ns.map .int) := rfl
theorem szL : sizeLine = 16777216 := rfl

/-! ### operators on what is known -/
section
variable {a b : Int} {ds es : List D} {x y : Str} {κ κ' : Type}
theorem f_add : fAdd (.int a) (.int b) = some (.int (a + b)) := rfl
theorem f_addT (h : ds.length + es.length ≤ 16777216) : fAdd (.tuple ds) (.tuple es) = some (.tuple (ds ++ es)) := add_tup h
theorem f_addS (h : x.length + y.length ≤ 16777216) : fAdd (.str x) (.str y) = some (.str (x ++ y)) := if_pos h
theorem f_sub : fSub (.int a) (.int b) = some (.int (a - b)) := rfl
theorem f_mulL (h : a.natAbs < 18446744073709551616) : fMul (.int a) (.int b) = some (.int (a * b)) := mul_small h
theorem f_mulR (h : b.natAbs < 18446744073709551616) : fMul (.int a) (.int b) = some (.int (a * b)) := by
  unfold fMul mulOk
  simp [h]
theorem f_mulB {k : Nat} (ha : a.natAbs < 2 ^ k) (hb : b.natAbs < 2 ^ k) (hk : k ≤ 400000) : fMul (.int a) (.int b) = some (.int (a * b)) := by
  have h : ∀ c : Int, c.natAbs < 2 ^ k → c.natAbs.log2 ≤ k := fun c hc => by
    by_cases z : c.natAbs = 0
    · rw [z]; exact Nat.zero_le _
    · exact Nat.le_of_lt ((Nat.log2_lt z).mpr hc)
  have h1 := h a ha
  have h2 := h b hb
  unfold fMul mulOk
  have h3 : decide (a.natAbs.log2 + b.natAbs.log2 < 1000000) = true := decide_eq_true (by omega)
  simp only [h3, Bool.or_true, if_true]
theorem f_div (h0 : 0 < b) (h : b < 1073741824) : fDiv (.int a) (.int b) = some (.int (a / b)) := by
  unfold fDiv divOk
  have h2 : b.natAbs < 1073741824 := by omega
  have h3 : b ≠ 0 := by omega
  simp [h2, h3, Int.fdiv_eq_ediv_of_nonneg a (by omega : 0 ≤ b)]
theorem f_divB (h0 : 0 < b) (h : b < 2 ^ 200) : fDiv (.int a) (.int b) = some (.int (a / b)) := by
  unfold fDiv divOk
  have h2 : b.natAbs.log2 < 9000 := by
    have h4 : b.natAbs < 2 ^ 200 := by omega
    have := (Nat.log2_lt (show b.natAbs ≠ 0 by omega)).mpr h4
    omega
  have h3 : b ≠ 0 := by omega
  simp [h2, h3, Int.fdiv_eq_ediv_of_nonneg a (by omega : 0 ≤ b)]
theorem f_mod (h0 : 0 < b) : fMod (.int a) (.int b) = some (.int (a % b)) := by
  show (if b = 0 then none else some (PyData.int (a.fmod b))) = _
  rw [if_neg (by omega : ¬ b = 0), Int.fmod_eq_emod_of_nonneg a (by omega : 0 ≤ b)]
theorem f_pow (h0 : 0 ≤ b) (h1 : b ≤ 1000000) (h2 : a.natAbs < 18446744073709551616) : fPow (.int a) (.int b) = some (.int (a ^ b.toNat)) := by
  unfold fPow powOk
  have h3 : a.natAbs < 2 ^ 64 := h2
  simp [h0, h1, h3]
theorem f_neg : fNeg (.int a) = some (.int (-a)) := rfl
theorem f_lt : fLt (.int a) (.int b) = some (.bool (decide (a < b))) := rfl
theorem f_le : fLe (.int a) (.int b) = some (.bool (decide (a ≤ b))) := rfl
theorem f_gt : fGt (.int a) (.int b) = some (.bool (decide (a > b))) := rfl
theorem f_ge : fGe (.int a) (.int b) = some (.bool (decide (a ≥ b))) := rfl
theorem f_eqI : fEq (.int a) (.int b) = some (.bool (decide (a = b))) := by
  rw [eq_int]
  congr 2
theorem f_neI : fNe (.int a) (.int b) = some (.bool (!decide (a = b))) := by
  rw [ne_int]
  congr 2
theorem f_eqS : fEq (.str x) (.str y) = some (.bool (decide (x = y))) := rfl
theorem f_neS : fNe (.str x) (.str y) = some (.bool (!decide (x = y))) := rfl
theorem eqvA_ints : ∀ ns ms : List Int, PyData.eqvAll (ns.map .int) (ms.map .int) = decide (ns = ms)
  | [], [] => by simp [PyData.eqvAll]
  | [], _ :: _ => by simp [PyData.eqvAll]
  | _ :: _, [] => by simp [PyData.eqvAll]
  | n :: r, m :: s => by
    rw [List.map_cons, List.map_cons, PyData.eqvAll, eqvA_ints r s, eqv_int]
    by_cases h : n = m
    · subst h; simp
    · simp [h]
theorem shaped_iT (ns : List Int) : SeqAt.shaped (.tuple (ns.map .int)) = true := shaped_intsT ns
theorem shaped_iL (ns : List Int) : SeqAt.shaped (.list (ns.map .int)) = true := shaped_ints ns
theorem eqD_tI (ns ms : List Int) : eqD (.tuple (ns.map .int)) (.tuple (ms.map .int)) = some (decide (ns = ms)) := by
  unfold eqD
  simp only [shaped_iT, Bool.and_self, if_true, PyData.eqv, eqvA_ints]
theorem eqD_lI (ns ms : List Int) : eqD (.list (ns.map .int)) (.list (ms.map .int)) = some (decide (ns = ms)) := by
  unfold eqD
  simp only [shaped_iL, Bool.and_self, if_true, PyData.eqv, eqvA_ints]
theorem f_eqtI (ns ms : List Int) : fEq (.tuple (ns.map .int)) (.tuple (ms.map .int)) = some (.bool (decide (ns = ms))) := by unfold fEq; rw [eqD_tI]; rfl
theorem f_netI (ns ms : List Int) : fNe (.tuple (ns.map .int)) (.tuple (ms.map .int)) = some (.bool (!decide (ns = ms))) := by unfold fNe; rw [eqD_tI]; rfl
theorem f_eqlI (ns ms : List Int) : fEq (.list (ns.map .int)) (.list (ms.map .int)) = some (.bool (decide (ns = ms))) := by unfold fEq; rw [eqD_lI]; rfl
theorem f_nelI (ns ms : List Int) : fNe (.list (ns.map .int)) (.list (ms.map .int)) = some (.bool (!decide (ns = ms))) := by unfold fNe; rw [eqD_lI]; rfl
theorem f_nelI0 (ns : List Int) : fNe (.list (ns.map .int)) (.list []) = some (.bool (!decide (ns = []))) := f_nelI ns []
theorem f_eqlI0 (ns : List Int) : fEq (.list (ns.map .int)) (.list []) = some (.bool (decide (ns = []))) := f_eqlI ns []
theorem f_netI0 (ns : List Int) : fNe (.tuple (ns.map .int)) (.tuple []) = some (.bool (!decide (ns = []))) := f_netI ns []
theorem f_eqtI0 (ns : List Int) : fEq (.tuple (ns.map .int)) (.tuple []) = some (.bool (decide (ns = []))) := f_eqtI ns []
theorem f_inT (ns : List Int) : fIn (.int a) (.tuple (ns.map .int)) = some (.bool (decide (a ∈ ns))) := by
  have := in_ints a ns
  unfold dT at this
  rw [this]
  congr 2
  by_cases h : a ∈ ns
  · simp [h]
  · simp [h]
theorem f_ninT (ns : List Int) : fNin (.int a) (.tuple (ns.map .int)) = some (.bool (!decide (a ∈ ns))) := by
  have h := f_inT (a := a) ns
  unfold fIn at h
  unfold fNin
  obtain ⟨b, h1, h2⟩ := mpd h
  rw [h1]
  cases h2; rfl
theorem f_inL (ns : List Int) : fIn (.int a) (.list (ns.map .int)) = some (.bool (decide (a ∈ ns))) := by
  have h : fIn (.int a) (.list (ns.map .int)) = fIn (.int a) (.tuple (ns.map .int)) := by
    unfold fIn isIn items
    simp only [Option.bind_some, shaped_iL, shaped_iT]
  rw [h, f_inT]
theorem f_ninL (ns : List Int) : fNin (.int a) (.list (ns.map .int)) = some (.bool (!decide (a ∈ ns))) := by
  have h := f_inL (a := a) ns
  unfold fIn at h
  unfold fNin
  obtain ⟨b, h1, h2⟩ := mpd h
  rw [h1]
  cases h2; rfl
theorem items_t : items (.tuple ds) = some ds := rfl
theorem items_l : items (.list ds) = some ds := rfl
theorem f_lenT : fLen [.tuple ds] = some (.int ds.length) := rfl
theorem f_lenL : fLen [.list ds] = some (.int ds.length) := rfl
theorem f_abs : fAbs [.int a] = some (.int a.natAbs) := rfl
theorem f_intI : fInt [.int a] = some (.int a) := rfl
theorem f_intB {b : Bool} : fInt [.bool b] = some (.int (if b then 1 else 0)) := rfl
theorem f_tupL : fTuple [.list ds] = some (.tuple ds) := rfl
theorem f_tupT : fTuple [.tuple ds] = some (.tuple ds) := rfl
theorem f_lstL : fList [.list ds] = some ds := rfl
theorem f_lstT : fList [.tuple ds] = some ds := rfl
theorem f_max2 : fMax [.int a, .int b] = some (.int (max a b)) := by
  show some (PyData.int (if b > a then b else a)) = _
  congr 2
  by_cases h : b > a
  · rw [if_pos h]; omega
  · rw [if_neg h]; omega
theorem f_min2 : fMin [.int a, .int b] = some (.int (min a b)) := by
  show some (PyData.int (if b < a then b else a)) = _
  congr 2
  by_cases h : b < a
  · rw [if_pos h]; omega
  · rw [if_neg h]; omega
theorem io_nil : intsOf [] = some [] := rfl
theorem io_cons : intsOf (.int a :: ds) = (intsOf ds).map (a :: ·) := rfl
theorem io_app : intsOf (ds ++ es) = (intsOf ds).bind fun x => (intsOf es).map fun y => x ++ y := by
  induction ds with
  | nil => show intsOf es = (intsOf es).map fun y => [] ++ y; cases intsOf es <;> rfl
  | cons d r ih =>
    cases d with
    | int i =>
      show (intsOf (r ++ es)).map (i :: ·) = ((intsOf r).map (i :: ·)).bind _
      rw [ih]
      cases intsOf r with
      | none => rfl
      | some x => cases intsOf es <;> rfl
    | _ => rfl
def leastOf : List Int → Int
  | [] => 0
  | n :: r => r.foldl min n
theorem max_io {ns : List Int} (h : intsOf ds = some ns) (hn : ns ≠ []) : fMax [.list ds] = some (.int (mostOf ns)) := by
  rw [ints_of h]; exact max_intsL hn
theorem min_io {ns : List Int} (h : intsOf ds = some ns) (hn : ns ≠ []) : fMin [.list ds] = some (.int (leastOf ns)) := by
  rw [ints_of h]
  cases ns with
  | nil => exact absurd rfl hn
  | cons n r =>
    show minL ((n :: r).map .int) = _
    rw [minL_ints]; rfl
theorem f_maxL (ns : List Int) (h : ns ≠ []) : fMax [.list (ns.map .int)] = some (.int (mostOf ns)) := max_intsL h
theorem f_maxT (ns : List Int) (h : ns ≠ []) : fMax [.tuple (ns.map .int)] = some (.int (mostOf ns)) := max_ints h
theorem f_minL (ns : List Int) (h : ns ≠ []) : fMin [.list (ns.map .int)] = some (.int (leastOf ns)) := min_io (intsOf_map ns) h
theorem f_minT (ns : List Int) (h : ns ≠ []) : fMin [.tuple (ns.map .int)] = some (.int (leastOf ns)) := f_minL ns h
theorem f_sumL (ns : List Int) : fSum [.list (ns.map .int)] = some (.int ns.sum) := sum_intsL ns
theorem f_sumT (ns : List Int) : fSum [.tuple (ns.map .int)] = some (.int ns.sum) := sum_intsL ns
theorem f_allL (bs : List Bool) : fAll [.list (bs.map .bool)] = some (.bool (bs.all id)) := by
  show (boolsOf (bs.map .bool)).map _ = _
  rw [boolsOf_map]; rfl
theorem f_anyL (bs : List Bool) : fAny [.list (bs.map .bool)] = some (.bool (bs.any id)) := by
  show (boolsOf (bs.map .bool)).map _ = _
  rw [boolsOf_map]; rfl
theorem f_catL (h : ds.length + es.length ≤ 16777216) : fCat (.list ds) (.list es) = some (ds ++ es) := by
  unfold fCat
  exact if_pos h

/-! items -/
theorem f_ixL : fIx (.list ds) (.int a) = atI ds a := rfl
theorem f_ixT : fIx (.tuple ds) (.int a) = atI ds a := rfl
theorem atI_n {d : D} {k : Nat} (h0 : 0 ≤ a) (h1 : ds[a.toNat]? = some d) : atI ds a = some d := by
  obtain ⟨h2, _⟩ := List.getElem?_eq_some_iff.mp h1
  unfold atI
  rw [ixN_of h0 (by omega)]
  exact h1
theorem atI_i {ns : List Int} (h0 : 0 ≤ a) (h1 : a < ns.length) : atI (ns.map PyData.int) a = some (.int (ns.getD a.toNat 0)) := by
  rw [atI_map h0 h1, List.getD_eq_getElem?_getD, List.getElem?_eq_getElem (by omega)]; rfl
theorem atI_t {l : List (List Int)} (h0 : 0 ≤ a) (h1 : a < l.length) : atI (l.map dT) a = some (dT (l.getD a.toNat [])) := by
  rw [atI_map h0 h1, List.getD_eq_getElem?_getD, List.getElem?_eq_getElem (by omega)]; rfl
theorem atI_g [Inhabited κ] {l : List κ} {e : κ → D} (h0 : 0 ≤ a) (h1 : a < l.length) : atI (l.map e) a = some (e (l.getD a.toNat default)) := by
  rw [atI_map h0 h1, List.getD_eq_getElem?_getD, List.getElem?_eq_getElem (by omega)]; rfl
theorem atI_0 {d : D} : atI (d :: ds) 0 = some d := by
  unfold atI
  rw [ixN_of (by decide) (by rw [List.length_cons]; omega)]; rfl
theorem atI_1 {d e : D} : atI (d :: e :: ds) 1 = some e := by
  unfold atI
  rw [ixN_of (by decide) (by rw [List.length_cons, List.length_cons]; omega)]; rfl
theorem atI_2 {d e f : D} : atI (d :: e :: f :: ds) 2 = some f := by
  unfold atI
  rw [ixN_of (by decide) (by rw [List.length_cons, List.length_cons, List.length_cons]; omega)]; rfl
theorem atI_lastD {d : D} : atI (ds ++ [d]) (-1) = some d := by
  unfold atI ixN
  rw [if_neg (by decide), List.length_append]
  rw [if_pos (by simp only [List.length_cons, List.length_nil]; omega)]
  show (ds ++ [d])[((-1 : Int) + ((ds.length + [d].length : Nat) : Int)).toNat]? = some d
  rw [show ((-1 : Int) + ((ds.length + [d].length : Nat) : Int)).toNat = ds.length by simp only [List.length_cons, List.length_nil]; omega]
  simp
theorem atI_lastI {ns : List Int} (h : ns ≠ []) : atI (ns.map PyData.int) (-1) = some (.int (ns.getLast h)) := by
  have := atI_lastD (ds := (ns.dropLast).map .int) (d := .int (ns.getLast h))
  rwa [← List.map_singleton (f := PyData.int), ← List.map_append, List.dropLast_concat_getLast] at this
theorem atI_lastG {ns : List Int} : atI ((ns ++ [a]).map PyData.int) (-1) = some (.int a) := by
  rw [List.map_append]; exact atI_lastD

/-! slices -/
theorem f_slT {lo hi : Option Int} : fSlice (.tuple ds) lo hi = some (.tuple (cutD ds lo hi)) := rfl
theorem f_slL {lo hi : Option Int} : fSliceL (.list ds) lo hi = some (cutD ds lo hi) := rfl
theorem cut_n : cutD ds none none = ds := by
  unfold cutD
  show List.take (ds.length - 0) (List.drop 0 ds) = ds
  rw [List.drop_zero, Nat.sub_zero, List.take_length]
theorem sIx_p {n d : Nat} (h : 0 ≤ a) : HT.sIx n d (some a) = min a.toNat n := by
  show (if a < 0 then _ else _) = _
  rw [if_neg (by omega)]
theorem cut_t (h : 0 ≤ b) : cutD ds none (some b) = ds.take b.toNat := by
  unfold cutD
  rw [sIx_p h]
  show List.take (min b.toNat ds.length - 0) (List.drop 0 ds) = _
  rw [List.drop_zero, Nat.sub_zero]
  by_cases h2 : b.toNat ≤ ds.length
  · rw [Nat.min_eq_left h2]
  · rw [Nat.min_eq_right (by omega), List.take_length, List.take_of_length_le (by omega)]
theorem cut_f (h : 0 ≤ a) : cutD ds (some a) none = ds.drop a.toNat := by
  unfold cutD
  rw [sIx_p h]
  show List.take (ds.length - min a.toNat ds.length) (List.drop (min a.toNat ds.length) ds) = _
  by_cases h2 : a.toNat ≤ ds.length
  · rw [Nat.min_eq_left h2, List.take_of_length_le (by rw [List.length_drop]; omega)]
  · rw [Nat.min_eq_right (by omega), List.drop_of_length_le (Nat.le_refl _), List.drop_of_length_le (by omega), List.take_nil]
theorem cut_b (h : 0 ≤ a) (h2 : 0 ≤ b) : cutD ds (some a) (some b) = (ds.take b.toNat).drop a.toNat := by
  unfold cutD
  rw [sIx_p h, sIx_p h2, List.drop_take]
  by_cases h3 : a.toNat ≤ ds.length
  · rw [Nat.min_eq_left h3]
    by_cases h4 : b.toNat ≤ ds.length
    · rw [Nat.min_eq_left h4]
    · rw [Nat.min_eq_right (by omega), List.take_of_length_le (by rw [List.length_drop]; omega), List.take_of_length_le (by rw [List.length_drop]; omega)]
  · rw [Nat.min_eq_right (show ds.length ≤ a.toNat by omega), List.drop_of_length_le (Nat.le_refl _), List.drop_of_length_le (show ds.length ≤ a.toNat by omega), List.take_nil, List.take_nil]
theorem cut_b0 (h2 : 0 ≤ b) : cutD ds (some 0) (some b) = ds.take b.toNat := by
  rw [cut_b (by decide) h2]; rfl
/-! lists as made of items of a kind -/
theorem map_appC (f : κ → D) (l m : List κ) : l.map f ++ m.map f = (l ++ m).map f := List.map_append.symm
theorem map_snocI (l : List Int) : l.map PyData.int ++ [.int a] = (l ++ [a]).map PyData.int := by rw [List.map_append]; rfl
theorem map_snocT (l : List (List Int)) (m : List Int) : l.map dT ++ [.tuple (m.map .int)] = (l ++ [m]).map dT := by rw [List.map_append]; rfl
theorem map_consI (l : List Int) : PyData.int a :: l.map PyData.int = (a :: l).map PyData.int := rfl
theorem map_consT (l : List (List Int)) (m : List Int) : PyData.tuple (m.map .int) :: l.map dT = (m :: l).map dT := rfl
theorem map_tk (f : κ → D) (l : List κ) (n : Nat) : (l.map f).take n = (l.take n).map f := List.map_take.symm
theorem map_dr (f : κ → D) (l : List κ) (n : Nat) : (l.map f).drop n = (l.drop n).map f := List.map_drop.symm
theorem map_st (f : κ → D) (l : List κ) (n : Nat) (y : κ) : (l.map f).set n (f y) = (l.set n y).map f := List.map_set.symm
theorem map_stI (l : List Int) (n : Nat) : (l.map PyData.int).set n (.int a) = (l.set n a).map PyData.int := List.map_set.symm
theorem map_dl (f : κ → D) (l : List κ) : (l.map f).dropLast = l.dropLast.map f := List.map_dropLast.symm
/-! ranges, pairs -/
def rngI (a b : Int) : List Int := (List.range (b - a).toNat).map fun k => a + ((k : Nat) : Int)
theorem rngI_len : (rngI a b).length = (b - a).toNat := by unfold rngI; simp
theorem rngI_mem {x : Int} : x ∈ rngI a b ↔ a ≤ x ∧ x < b := by
  unfold rngI
  rw [List.mem_map]
  constructor
  · rintro ⟨k, hk, rfl⟩
    rw [List.mem_range] at hk
    omega
  · intro ⟨h1, h2⟩
    exact ⟨(x - a).toNat, by rw [List.mem_range]; omega, by omega⟩
theorem rngI_get {i : Nat} (h : i < (b - a).toNat) : (rngI a b)[i]? = some (a + i) := by
  unfold rngI
  rw [List.getElem?_map, List.getElem?_range h]; rfl
theorem rngI_0 (n : Nat) : rngI 0 n = rng n := by
  unfold rngI rng
  simp
theorem f_rng1 (h : b < 4611686018427387904) (h0 : -4611686018427387904 ≤ b) : rngF1 [.int b] = some ((rng b.toNat).map .int) := by
  show (if -(2 ^ 62) ≤ b ∧ b < 2 ^ 62 then some (rngL 0 b.toNat) else none) = _
  rw [if_pos ⟨by omega, by omega⟩, rngL0]
theorem f_rng2 (h1 : -4611686018427387904 ≤ a) (h2 : a < 4611686018427387904) (h3 : -4611686018427387904 ≤ b) (h4 : b < 4611686018427387904) : rngF2 [.int a, .int b] = some ((rngI a b).map .int) := by
  show (if -(2 ^ 62) ≤ a ∧ a < 2 ^ 62 ∧ -(2 ^ 62) ≤ b ∧ b < 2 ^ 62 then some (rngL a (b - a).toNat) else none) = _
  rw [if_pos ⟨by omega, by omega, by omega, by omega⟩]
  unfold rngL rngI
  rw [List.map_map]; rfl
theorem f_lrng (h : b ≤ 16777216) (h0 : -4611686018427387904 ≤ b) : fLstRng (.int b) = some ((rng b.toNat).map .int) := by
  show (if -(2 ^ 62) ≤ b ∧ b ≤ 2 ^ 24 then some (rngL 0 b.toNat) else none) = _
  rw [if_pos ⟨by omega, by omega⟩, rngL0]
def idxG : Nat → List κ → List (Int × κ)
  | _, [] => []
  | k, x :: r => ((k : Int), x) :: idxG (k + 1) r
theorem enumL_G (f : κ → D) : ∀ (k : Nat) (xs : List κ), enumL k (xs.map f) = (idxG k xs).map fun q => .tuple [.int q.1, f q.2]
  | _, [] => rfl
  | k, x :: r => by
    rw [List.map_cons]
    show PyData.tuple [.int (k : Nat), f x] :: enumL (k + 1) (r.map f) = _
    rw [enumL_G f (k + 1) r]; rfl
theorem idxG_get : ∀ (k : Nat) (xs : List κ) (i : Nat), (idxG k xs)[i]? = (xs[i]?).map fun x => (((k + i : Nat) : Int), x)
  | _, [], _ => rfl
  | k, x :: r, 0 => rfl
  | k, x :: r, i + 1 => by
    show (idxG (k + 1) r)[i]? = _
    rw [idxG_get (k + 1) r i, show k + 1 + i = k + (i + 1) by omega]; rfl
theorem idxG_len : ∀ (k : Nat) (xs : List κ), (idxG k xs).length = xs.length
  | _, [] => rfl
  | k, x :: r => by show (idxG (k + 1) r).length + 1 = _; rw [idxG_len (k + 1) r]; rfl
theorem idxG_mem {k : Nat} {xs : List κ} {q : Int × κ} : q ∈ idxG k xs ↔ ∃ i : Nat, q.1 = ((k + i : Nat) : Int) ∧ xs[i]? = some q.2 := by
  rw [List.mem_iff_getElem?]
  constructor
  · rintro ⟨i, h⟩
    rw [idxG_get] at h
    obtain ⟨x, h1, rfl⟩ := mpd h
    exact ⟨i, rfl, h1⟩
  · rintro ⟨i, h1, h2⟩
    exact ⟨i, by rw [idxG_get, h2]; show some _ = some _; rw [← h1]⟩
theorem idxG_map (f : κ → κ') : ∀ (k : Nat) (xs : List κ), idxG k (xs.map f) = (idxG k xs).map fun q => (q.1, f q.2)
  | _, [] => rfl
  | k, x :: r => by
    rw [List.map_cons]
    show _ :: idxG (k + 1) (r.map f) = _
    rw [idxG_map f (k + 1) r]; rfl
theorem f_enT : enumFA [.tuple ds] = some (enumL 0 ds) := rfl
theorem f_enL : enumFA [.list ds] = some (enumL 0 ds) := rfl
theorem zipL_G (f : κ → D) (g : κ' → D) : ∀ (xs : List κ) (ys : List κ'), zipL (xs.map f) (ys.map g) = (xs.zip ys).map fun q => .tuple [f q.1, g q.2]
  | [], _ => rfl
  | _ :: _, [] => rfl
  | x :: r, y :: s => by
    rw [List.map_cons, List.map_cons, List.zip_cons_cons, List.map_cons, ← zipL_G f g r s]; rfl
theorem f_zipT : zipF [.tuple ds, .tuple es] = some (zipL ds es) := rfl
theorem f_zipL : zipF [.list ds, .list es] = some (zipL ds es) := rfl
/-! is, isinstance -/
theorem f_isN : fIs .none .none = some (.bool true) := rfl
theorem f_isB {b : Bool} : fIs (.bool b) .none = some (.bool false) := rfl
theorem f_isI : fIs (.int a) .none = some (.bool false) := rfl
theorem f_isS : fIs (.str x) .none = some (.bool false) := rfl
theorem f_isL : fIs (.list ds) .none = some (.bool false) := rfl
theorem f_isT : fIs (.tuple ds) .none = some (.bool false) := rfl
theorem f_isnN : fIsn .none .none = some (.bool false) := rfl
theorem f_isnB {b : Bool} : fIsn (.bool b) .none = some (.bool true) := rfl
theorem f_isnI : fIsn (.int a) .none = some (.bool true) := rfl
theorem f_isnS : fIsn (.str x) .none = some (.bool true) := rfl
theorem f_isnL : fIsn (.list ds) .none = some (.bool true) := rfl
theorem f_isnT : fIsn (.tuple ds) .none = some (.bool true) := rfl
def isTup : D → Bool
  | .tuple _ => true
  | _ => false
def isLst : D → Bool
  | .list _ => true
  | _ => false
def isIntD : D → Bool
  | .int _ => true
  | .bool _ => true
  | _ => false
def isBoolD : D → Bool
  | .bool _ => true
  | _ => false
def isStrD : D → Bool
  | .str _ => true
  | _ => false
def isDictD : D → Bool
  | .dict _ => true
  | _ => false
theorem kit_facts : (∀ t ∈ ["NoneType", "bool", "int", "str", "list", "tuple", "dict"], kitB t "tuple" = some (t == "tuple") ∧ kitB t "list" = some (t == "list") ∧ kitB t "int" = some (t == "int" || t == "bool") ∧ kitB t "bool" = some (t == "bool") ∧ kitB t "str" = some (t == "str") ∧ kitB t "dict" = some (t == "dict")) := by decide +kernel
theorem tyD_mem (d : D) : tyD d ∈ ["NoneType", "bool", "int", "str", "list", "tuple", "dict"] := by cases d <;> simp [tyD]
theorem f_isiT (d : D) : fIsi "tuple" d = some (.bool (isTup d)) := by
  unfold fIsi; rw [(kit_facts _ (tyD_mem d)).1]; cases d <;> rfl
theorem f_isiL (d : D) : fIsi "list" d = some (.bool (isLst d)) := by
  unfold fIsi; rw [(kit_facts _ (tyD_mem d)).2.1]; cases d <;> rfl
theorem f_isiI (d : D) : fIsi "int" d = some (.bool (isIntD d)) := by
  unfold fIsi; rw [(kit_facts _ (tyD_mem d)).2.2.1]; cases d <;> rfl
theorem f_isiB (d : D) : fIsi "bool" d = some (.bool (isBoolD d)) := by
  unfold fIsi; rw [(kit_facts _ (tyD_mem d)).2.2.2.1]; cases d <;> rfl
theorem f_isiS (d : D) : fIsi "str" d = some (.bool (isStrD d)) := by
  unfold fIsi; rw [(kit_facts _ (tyD_mem d)).2.2.2.2.1]; cases d <;> rfl
theorem f_isiD (d : D) : fIsi "dict" d = some (.bool (isDictD d)) := by
  unfold fIsi; rw [(kit_facts _ (tyD_mem d)).2.2.2.2.2]; cases d <;> rfl
end
/-! ### loops and comprehensions, met -/
def CompR {π : Type} (own : List Nat) (τ : D → Sg → Option Sg) (φ : SB π) (α : SE π) (ds : List D) (σ : Sg) (p : π) (R : List D → π → Prop) : Prop :=
  (ds.length ≤ sizeLine ∧ plainAt σ own = true) ∧ ∃ es p', lcGo own τ φ α ds σ p = some (es, p') ∧ R es p'
def LoopR {π : Type} (τ : D → Sg → Option Sg) (ψ : SS π) (ds : List D) (σ : Sg) (p : π) (R : Out π → Prop) : Prop := ∃ o, sLoop τ ψ ds σ p = some o ∧ R o
def LoR {π : Type} (J : Sg → π → Prop) (R : Out π → Prop) : Out π → Prop
  | .nx σ p => J σ p
  | .ct σ p => J σ p
  | .bk σ p => R (.nx σ p)
  | .rt d p => R (.rt d p)
def OutR {π : Type} (R : D → π → Prop) : Out π → Prop
  | .nx _ p => R .none p
  | .rt d p => R d p
  | _ => False
section
variable {π : Type} {ψ : SS π} {φ : SB π} {α : SE π} {ω : SL π} {σ : Sg} {p : π} {τ : D → Sg → Option Sg} {own : List Nat} {J : Sg → π → Prop} {R : Out π → Prop} {d : D} {R' : D → π → Prop}
theorem loR_nx : LoR J R (.nx σ p) = J σ p := rfl
theorem loR_ct : LoR J R (.ct σ p) = J σ p := rfl
theorem loR_bk : LoR J R (.bk σ p) = R (.nx σ p) := rfl
theorem loR_rt : LoR J R (.rt d p) = R (.rt d p) := rfl
theorem outR_nx : OutR R' (.nx σ p) = R' .none p := rfl
theorem outR_rt : OutR R' (.rt d p) = R' d p := rfl
theorem w_comp {RL : List D → π → Prop} : EvE (lComp own ω τ φ α) σ p RL ↔ EvE ω σ p fun ds p1 => CompR own τ φ α ds σ p1 RL := by
  unfold EvE lComp CompR
  rw [ev_bind]
  refine exists_congr fun ds => exists_congr fun q => and_congr_right fun _ => ?_
  show (∃ d p', (if ds.length ≤ sizeLine ∧ plainAt σ own = true then lcGo own τ φ α ds σ q else none) = some (d, p') ∧ RL d p') ↔ _
  by_cases h : ds.length ≤ sizeLine ∧ plainAt σ own = true
  · rw [if_pos h]; exact ⟨fun k => ⟨h, k⟩, fun k => k.2⟩
  · rw [if_neg h]; exact ev_none.trans ⟨fun k => k.elim, fun k => h k.1⟩
theorem w_for : Ends (sFor ω τ ψ) σ p R ↔ EvE ω σ p fun ds p1 => LoopR τ ψ ds σ p1 R := by
  unfold Ends sFor EvE LoopR
  rw [ends_bind, ev_pair]
/-- a comprehension that turns no state -/
theorem compP {κ ρ : Type} (e2 : ρ → D) {e : κ → D} {xs : List κ} {RL : List D → π → Prop} (c : κ → Bool) (h : κ → ρ) (H : ∀ x ∈ xs, Op (τ (e x) (wipeS σ own)) fun s => EvE φ s p fun b p1 => b = c x ∧ p1 = p ∧ (c x = true → EvE α s p fun d p2 => d = e2 (h x) ∧ p2 = p))
    (k : RL (((xs.filter c).map h).map e2) p) (hl : xs.length ≤ 16777216 := by first | assumption | omega | (simp only [rng_len, rngI_len, idxG_len, List.length_map, List.length_zip]; omega)) (hp : plainAt σ own = true := by rfl) : CompR own τ φ α (xs.map e) σ p RL := by
  refine ⟨⟨by rw [List.length_map]; exact hl, hp⟩, _, _, ?_, k⟩
  clear k hl hp
  induction xs with
  | nil => rfl
  | cons x r ih =>
    have ih := ih fun y hy => H y (List.mem_cons_of_mem _ hy)
    obtain ⟨s, h1, b, p1, h2, rfl, rfl, h3⟩ := H x List.mem_cons_self
    rw [List.map_cons]
    unfold lcGo
    simp only [h1, h2, Option.bind_some]
    cases hc : c x with
    | true =>
      obtain ⟨d, p2, h4, rfl, rfl⟩ := h3 hc
      rw [if_pos rfl, h4]
      simp only [Option.bind_some, ih, Option.map_some, List.filter_cons, hc, if_true, List.map_cons]
    | false =>
      rw [if_neg Bool.false_ne_true, ih, List.filter_cons, hc]
      simp only [Bool.false_eq_true, if_false]
/-- .. all items kept -/
theorem compM {κ ρ : Type} (e2 : ρ → D) {e : κ → D} {xs : List κ} {RL : List D → π → Prop} (h : κ → ρ) (H : ∀ x ∈ xs, Op (τ (e x) (wipeS σ own)) fun s => EvE α s p fun d p2 => d = e2 (h x) ∧ p2 = p)
    (k : RL ((xs.map h).map e2) p) (hl : xs.length ≤ 16777216 := by first | assumption | omega | (simp only [rng_len, rngI_len, idxG_len, List.length_map, List.length_zip]; omega)) (hp : plainAt σ own = true := by rfl) : CompR own τ xYes α (xs.map e) σ p RL := by
  refine compP e2 (fun _ => true) h (fun x hx => ?_) (by rw [List.filter_eq_self.mpr fun _ _ => rfl]; exact k) hl hp
  obtain ⟨s, h1, h2⟩ := H x hx
  exact ⟨s, h1, true, p, rfl, rfl, rfl, fun _ => h2⟩
/-- a comprehension that turns the state, counted -/
theorem compZ {κ ρ : Type} (e2 : ρ → D) {e : κ → D} {xs : List κ} {RL : List D → π → Prop} (J : Nat → π → Prop) (G : κ → Option ρ → Prop) (h0 : J 0 p)
    (H : ∀ (i : Nat) (x : κ) (p : π), xs[i]? = some x → J i p → Op (τ (e x) (wipeS σ own)) fun s => EvE φ s p fun b p1 => IteB b (EvE α s p1 fun d p2 => (∃ y, d = e2 y ∧ G x (some y)) ∧ J (i + 1) p2) (G x none ∧ J (i + 1) p1))
    (k : ∀ (ys : List (Option ρ)) (p : π), All2 G xs ys → J xs.length p → RL ((ys.filterMap id).map e2) p) (hl : xs.length ≤ 16777216 := by first | assumption | omega | (simp only [rng_len, rngI_len, idxG_len, List.length_map, List.length_zip]; omega)) (hp : plainAt σ own = true := by rfl) : CompR own τ φ α (xs.map e) σ p RL := by
  refine ⟨⟨by rw [List.length_map]; exact hl, hp⟩, ?_⟩
  have key : ∀ (xs : List κ) (n : Nat) (p : π), J n p → (∀ (i : Nat) (x : κ) (p : π), xs[i]? = some x → J (n + i) p → Op (τ (e x) (wipeS σ own)) fun s => EvE φ s p fun b p1 => IteB b (EvE α s p1 fun d p2 => (∃ y, d = e2 y ∧ G x (some y)) ∧ J (n + i + 1) p2) (G x none ∧ J (n + i + 1) p1)) →
      ∃ ys p', lcGo own τ φ α (xs.map e) σ p = some ((ys.filterMap id).map e2, p') ∧ All2 G xs ys ∧ J (n + xs.length) p' := by
    intro xs
    induction xs with
    | nil => intro n p h _; exact ⟨[], p, rfl, .nil, h⟩
    | cons x r ih =>
      intro n p h H
      obtain ⟨s, h1, b, p1, h2, h3⟩ := H 0 x p rfl h
      have hn : n + (x :: r).length = n + 1 + r.length := by rw [List.length_cons]; omega
      rw [hn]
      cases b with
      | true =>
        obtain ⟨d, p2, h4, ⟨y, rfl, h6⟩, h5⟩ := h3.1 rfl
        obtain ⟨ys, p', g1, g2, g3⟩ := ih (n + 1) p2 h5 fun i z q hi hJ => by
          have := H (i + 1) z q (by simpa using hi) (by rw [show n + (i + 1) = n + 1 + i by omega]; exact hJ)
          rw [show n + (i + 1) + 1 = n + 1 + i + 1 by omega] at this
          exact this
        refine ⟨some y :: ys, p', ?_, .cons h6 g2, g3⟩
        rw [List.map_cons]
        unfold lcGo
        simp only [h1, h2, Option.bind_some, if_true, h4, g1, Option.map_some]
        rfl
      | false =>
        obtain ⟨h6, h5⟩ := h3.2 rfl
        obtain ⟨ys, p', g1, g2, g3⟩ := ih (n + 1) p1 h5 fun i z q hi hJ => by
          have := H (i + 1) z q (by simpa using hi) (by rw [show n + (i + 1) = n + 1 + i by omega]; exact hJ)
          rw [show n + (i + 1) + 1 = n + 1 + i + 1 by omega] at this
          exact this
        refine ⟨none :: ys, p', ?_, .cons h6 g2, g3⟩
        rw [List.map_cons]
        unfold lcGo
        simp only [h1, h2, Option.bind_some, Bool.false_eq_true, if_false, g1]
        rfl
  obtain ⟨ys, p', h1, h2, h3⟩ := key xs 0 p h0 fun i x p hi hJ => by
    rw [Nat.zero_add] at hJ ⊢
    exact H i x p hi hJ
  rw [Nat.zero_add] at h3
  exact ⟨_, _, h1, k ys p' h2 h3⟩
/-- .. all kept -/
theorem compZM {κ ρ : Type} (e2 : ρ → D) {e : κ → D} {xs : List κ} {RL : List D → π → Prop} (J : Nat → π → Prop) (G : κ → ρ → Prop) (h0 : J 0 p)
    (H : ∀ (i : Nat) (x : κ) (p : π), xs[i]? = some x → J i p → Op (τ (e x) (wipeS σ own)) fun s => EvE α s p fun d p2 => (∃ y, d = e2 y ∧ G x y) ∧ J (i + 1) p2)
    (k : ∀ (ys : List ρ) (p : π), All2 G xs ys → J xs.length p → RL (ys.map e2) p) (hl : xs.length ≤ 16777216 := by first | assumption | omega | (simp only [rng_len, rngI_len, idxG_len, List.length_map, List.length_zip]; omega)) (hp : plainAt σ own = true := by rfl) : CompR own τ xYes α (xs.map e) σ p RL := by
  refine compZ e2 J (fun x o => ∃ y, o = some y ∧ G x y) h0 (fun i x p hi hJ => ?_) (fun ys p h hJ => ?_) hl hp
  · obtain ⟨s, h1, d, p2, h2, ⟨y, h3, h4⟩, h5⟩ := H i x p hi hJ
    exact ⟨s, h1, true, p, rfl, fun _ => ⟨d, p2, h2, ⟨y, h3, y, rfl, h4⟩, h5⟩, fun z => by cases z⟩
  · have : ∃ zs, ys.filterMap id = zs ∧ All2 G xs zs := by
      clear k hJ H h0 hl
      induction h with
      | nil => exact ⟨[], rfl, .nil⟩
      | cons g _ ih =>
        obtain ⟨y, rfl, g⟩ := g
        obtain ⟨zs, h1, h2⟩ := ih
        exact ⟨y :: zs, by rw [List.filterMap_cons]; show y :: _ = _; rw [h1], .cons g h2⟩
    obtain ⟨zs, h1, h2⟩ := this
    rw [h1]
    exact k zs p h2 hJ
/-- a loop by what holds behind the items taken -/
theorem loopP {κ : Type} {e : κ → D} {xs : List κ} (I : List κ → Sg → π → Prop) (h0 : I [] σ p)
    (hs : ∀ (pre : List κ) (x : κ) (post : List κ) (σ : Sg) (p : π), xs = pre ++ x :: post → I pre σ p → Op (τ (e x) σ) fun σ1 => Ends ψ σ1 p (LoR (I (pre ++ [x])) R))
    (hd : ∀ (σ : Sg) (p : π), I xs σ p → R (.nx σ p)) : LoopR τ ψ (xs.map e) σ p R := by
  have key : ∀ (post pre : List κ) (σ : Sg) (p : π), xs = pre ++ post → I pre σ p → ∃ o, sLoop τ ψ (post.map e) σ p = some o ∧ R o := by
    intro post
    induction post with
    | nil =>
      intro pre σ p hx h
      rw [List.append_nil] at hx
      subst hx
      exact ⟨_, rfl, hd σ p h⟩
    | cons x r ih =>
      intro pre σ p hx h
      obtain ⟨σ1, h1, o, h2, h3⟩ := hs pre x r σ p hx h
      rw [List.map_cons]
      unfold sLoop
      simp only [h1, h2]
      cases o with
      | nx σ2 p2 => exact ih (pre ++ [x]) σ2 p2 (by rw [hx, List.append_assoc]; rfl) h3
      | ct σ2 p2 => exact ih (pre ++ [x]) σ2 p2 (by rw [hx, List.append_assoc]; rfl) h3
      | bk σ2 p2 => exact ⟨_, rfl, h3⟩
      | rt d p2 => exact ⟨_, rfl, h3⟩
  exact key xs [] σ p rfl h0
/-- a while -/
theorem whileP {n : Nat} (I : Sg → π → Prop) (μ : Sg → π → Nat) (h0 : I σ p) (hm : μ σ p < n)
    (hs : ∀ (σ : Sg) (p : π), I σ p → EvE φ σ p fun b p1 => IteB b (Ends ψ σ p1 (LoR (fun σ' p' => I σ' p' ∧ μ σ' p' < μ σ p) R)) (R (.nx σ p1))) : Ends (sWhile φ ψ n) σ p R := by
  induction n generalizing σ p with
  | zero => exact absurd hm (Nat.not_lt_zero _)
  | succ n ih =>
    obtain ⟨b, p1, h1, h2⟩ := hs σ p h0
    unfold Ends sWhile
    rw [h1]
    cases b with
    | false => exact ⟨_, rfl, h2.2 rfl⟩
    | true =>
      obtain ⟨o, g1, g2⟩ := h2.1 rfl
      show ∃ o, (match ψ σ p1 with
        | some (.nx σ2 p2) => sWhile φ ψ n σ2 p2
        | some (.ct σ2 p2) => sWhile φ ψ n σ2 p2
        | some (.bk σ2 p2) => some (.nx σ2 p2)
        | some (.rt d p2) => some (.rt d p2)
        | none => none) = some o ∧ R o
      rw [g1]
      cases o with
      | nx σ2 p2 => exact ih g2.1 (by have := g2.2; omega)
      | ct σ2 p2 => exact ih g2.1 (by have := g2.2; omega)
      | bk σ2 p2 => exact ⟨_, rfl, g2⟩
      | rt d p2 => exact ⟨_, rfl, g2⟩
end
/-! ### defs, met -/
theorem runPe {m : Nat} {ψ : SS Unit} {ds : List D} {d : D} (h : Ends ψ (ds.map .val ++ List.replicate (m - ds.length) .un) () (OutR fun x _ => x = d)) : runP m ψ ds = some d := by
  obtain ⟨o, h1, h2⟩ := h
  unfold runP
  rw [h1]
  cases o with
  | nx σ p => cases h2; rfl
  | rt x p => cases h2; rfl
  | bk _ _ => cases h2
  | ct _ _ => cases h2
theorem runPx {m : Nat} {ψ : SS Unit} {ds : List D} {G : D → Prop} (h : Ends ψ (ds.map .val ++ List.replicate (m - ds.length) .un) () (OutR fun x _ => G x)) : ∃ d, runP m ψ ds = some d ∧ G d := by
  obtain ⟨o, h1, h2⟩ := h
  unfold runP
  rw [h1]
  cases o with
  | nx σ p => exact ⟨_, rfl, h2⟩
  | rt x p => exact ⟨_, rfl, h2⟩
  | bk _ _ => cases h2
  | ct _ _ => cases h2
theorem runZe {π : Type} {m : Nat} {ψ : SS π} {ds : List D} {p : π} {R : D → π → Prop} (h : Ends ψ (.pot :: ds.map .val ++ List.replicate (m - (ds.length + 1)) .un) p (OutR R)) : EvZ (runZ m ψ ds) p R := by
  obtain ⟨o, h1, h2⟩ := h
  unfold EvZ runZ
  rw [h1]
  cases o with
  | nx σ p => exact ⟨_, _, rfl, h2⟩
  | rt x p => exact ⟨_, _, rfl, h2⟩
  | bk _ _ => cases h2
  | ct _ _ => cases h2
theorem EvZ.mono {π : Type} {g : π → Option (D × π)} {p : π} {R S : D → π → Prop} (h : EvZ g p R) (k : ∀ d p', R d p' → S d p') : EvZ g p S := by
  obtain ⟨d, p', h1, h2⟩ := h
  exact ⟨d, p', h1, k d p' h2⟩
theorem Ends.mono {π : Type} {ψ : SS π} {σ : Sg} {p : π} {R S : Out π → Prop} (h : Ends ψ σ p R) (k : ∀ o, R o → S o) : Ends ψ σ p S := ends_mono h k
/-- a statement in a row, by what stands behind it -/
theorem w_mid {π : Type} {ψ χ : SS π} {σ : Sg} {p : π} {R : Out π → Prop} (M : Sg → π → Prop) (h : Ends ψ σ p (SeqR sNil fun o => match o with | .nx σ p => M σ p | o => R o)) (k : ∀ σ p, M σ p → Ends χ σ p R) : Ends (sSeq ψ χ) σ p R := by
  rw [w_seq]
  refine ends_mono h fun o ho => ?_
  cases o with
  | nx σ p =>
    obtain ⟨o, h1, h2⟩ := ho
    cases h1
    exact k σ p h2
  | _ => exact ho

/-! ### calls, met -/
section
variable {f : List D → Option D} {a b c d e g h i : D}
theorem li_0 : lenIs 0 f [] = f [] := rfl
theorem li_1 : lenIs 1 f [a] = f [a] := rfl
theorem li_2 : lenIs 2 f [a, b] = f [a, b] := rfl
theorem li_3 : lenIs 3 f [a, b, c] = f [a, b, c] := rfl
theorem li_4 : lenIs 4 f [a, b, c, d] = f [a, b, c, d] := rfl
theorem li_5 : lenIs 5 f [a, b, c, d, e] = f [a, b, c, d, e] := rfl
theorem li_6 : lenIs 6 f [a, b, c, d, e, g] = f [a, b, c, d, e, g] := rfl
theorem kw_of {n m : Nat} {ix : List Nat} {ds : List D} (h : ds.length = m) : kwF n ix m f ds = lenIs n f (permD ix ds) := if_pos h
theorem perm_def (ix : List Nat) (ds : List D) : permD ix ds = ix.map fun i => ds.getD i .none := rfl
end
/-! ### slots, met -/
section
variable {s : Sl} {σ : Sg} {n : Nat} {d x y z : D} {ds : List D}
theorem bor_0 : borS 0 (s :: σ) = shw s :: σ.map hid := rfl
theorem bor_s : borS (n + 1) (s :: σ) = hid s :: borS n σ := rfl
theorem hid_o : hid (.own ds) = .un := rfl
theorem hid_v : hid (.val d) = .val d := rfl
theorem hid_p : hid .pot = .pot := rfl
theorem hid_u : hid .un = .un := rfl
theorem shw_o : shw (.own ds) = .val (.list ds) := rfl
theorem wipe_n : wipeS σ [] = σ := rfl
theorem wipe_c {i : Nat} {r : List Nat} : wipeS σ (i :: r) = (wipeS σ r).set i .un := rfl
theorem tg_n {i : Nat} : tgN i d σ = some (σ.set i (.val d)) := rfl
theorem tg_p {i j : Nat} : tgP i j (.tuple [x, y]) σ = some ((σ.set i (.val x)).set j (.val y)) := rfl
theorem tg_3 {i j l : Nat} : tgT3 i j l (.tuple [x, y, z]) σ = some (((σ.set i (.val x)).set j (.val y)).set l (.val z)) := rfl
theorem fl_n : flatD .none = true := rfl
theorem fl_b {b : Bool} : flatD (.bool b) = true := rfl
theorem fl_i {i : Int} : flatD (.int i) = true := rfl
theorem fl_s {x : Str} : flatD (.str x) = true := rfl
theorem fl_t : flatD (.tuple ds) = flatAll ds := rfl
theorem fl_an : flatAll [] = true := rfl
theorem fl_ac : flatAll (d :: ds) = (flatD d && flatAll ds) := rfl
theorem fl_ai (ns : List Int) : flatAll (ns.map .int) = true := by
  induction ns with
  | nil => rfl
  | cons n r ih => rw [List.map_cons]; show (true && flatAll (r.map .int)) = true; rw [ih]; rfl
theorem fl_at (l : List (List Int)) : flatAll (l.map dT) = true := by
  induction l with
  | nil => rfl
  | cons n r ih => rw [List.map_cons]; show (flatAll (n.map .int) && flatAll (r.map dT)) = true; rw [ih, fl_ai]; rfl
theorem exZ {π : Type} {P : π → Prop} : True := trivial
end
end FL

namespace FL
open PySem L2
/-! ### slices with a step -/
theorem w_sliceS {π : Type} {α β : SE π} {u v : SO π} {σ : Sg} {p : π} {R : D → π → Prop} : EvE (xSliceS α u v β) σ p R ↔ EvE α σ p fun x p1 => EvE u σ p1 fun lo p2 => EvE v σ p2 fun hi p3 => EvE β σ p3 fun st p4 => Op (fSliceS x lo hi st) fun z => R z p4 := by
  unfold EvE xSliceS; simp only [ev_bind, ev_map]
theorem w_lsliceS {π : Type} {α β : SE π} {u v : SO π} {σ : Sg} {p : π} {R : List D → π → Prop} : EvE (lSliceS α u v β) σ p R ↔ EvE α σ p fun x p1 => EvE u σ p1 fun lo p2 => EvE v σ p2 fun hi p3 => EvE β σ p3 fun st p4 => Op (fSliceLS x lo hi st) fun z => R z p4 := by
  unfold EvE lSliceS; simp only [ev_bind, ev_map]
section
variable {κ : Type}
/-- each d-th item from a on -/
def nth (xs : List κ) (a d : Nat) : List κ := (List.range xs.length).filterMap fun k => xs[a + k * d]?
theorem fm_range {f : Nat → Option κ} : ∀ (n m : Nat), m ≤ n → (∀ k, m ≤ k → f k = none) → (List.range n).filterMap f = (List.range m).filterMap f
  | 0, m, h, _ => by have : m = 0 := by omega
                     subst this; rfl
  | n + 1, m, h, hf => by
    by_cases z : m = n + 1
    · subst z; rfl
    · rw [List.range_succ, List.filterMap_append, fm_range n m (by omega) hf, List.filterMap_cons, hf n (by omega), List.filterMap_nil, List.append_nil]
theorem nth_map (e : κ → D) (xs : List κ) (a d : Nat) : nth (xs.map e) a d = (nth xs a d).map e := by
  unfold nth
  rw [List.length_map, List.map_filterMap]
  congr 1
  funext k
  rw [List.getElem?_map]
theorem nth_len (xs : List κ) (a d : Nat) : (nth xs a d).length ≤ xs.length := by
  unfold nth
  have := List.length_filterMap_le (fun k => xs[a + k * d]?) (List.range xs.length)
  rw [List.length_range] at this
  exact this
theorem nth_one (xs : List κ) (a : Nat) : nth xs a 1 = xs.drop a := by
  induction xs generalizing a with
  | nil => unfold nth; simp
  | cons x r ih =>
    have h1 : ∀ a, nth (x :: r) (a + 1) 1 = nth r a 1 := fun a => by
      unfold nth
      rw [List.length_cons, List.range_succ, List.filterMap_append, List.filterMap_cons, List.getElem?_eq_none (by simp; omega), List.filterMap_nil, List.append_nil]
      congr 1
      funext k
      rw [show a + 1 + k * 1 = (a + k * 1) + 1 by omega, List.getElem?_cons_succ]
    cases a with
    | zero =>
      have h2 := h1 0
      rw [ih 0, List.drop_zero] at h2
      have : nth (x :: r) 0 1 = x :: nth (x :: r) 1 1 := by
        unfold nth
        rw [List.length_cons, List.range_succ_eq_map, List.filterMap_cons]
        show x :: _ = x :: _
        congr 1
        rw [List.filterMap_map, ← List.range_succ_eq_map, fm_range (r.length + 1) r.length (by omega) (fun k hk => List.getElem?_eq_none (by simp; omega))]
        congr 1
        funext k
        simp only [Function.comp]
        rw [show 0 + (k + 1) * 1 = 0 + 1 + k * 1 by omega]
      rw [this, h2]; rfl
    | succ a => rw [h1 a, ih a, List.drop_succ_cons]
theorem ixS_nth (ds : List κ) {a d : Int} (h0 : 0 ≤ a) (h1 : 1 < d) : (HT.ixS ds.length (some a) none d).filterMap (fun k => ds[k]?) = nth ds a.toNat d.toNat := by
  unfold HT.ixS nth
  have hd : ¬ d < 0 := by omega
  have hc : Builtin.Slice.sliceAdjust (some a) none d ds.length = (min a ds.length, (ds.length : Int)) := by
    unfold Builtin.Slice.sliceAdjust
    simp only [hd, if_false]
    rw [if_neg (by omega)]
  rw [hc, List.filterMap_map]
  obtain ⟨n, rfl⟩ : ∃ n : Nat, a = n := ⟨a.toNat, by omega⟩
  obtain ⟨e, rfl⟩ : ∃ e : Nat, d = e := ⟨d.toNat, by omega⟩
  simp only [Int.toNat_natCast]
  have hg : (fun k => ds[(min (n : Int) (ds.length : Int) + ((k : Nat) : Int) * (e : Int)).toNat]?) = fun k => ds[min n ds.length + k * e]? := by
    funext k
    congr 1
    rw [show ((k : Nat) : Int) * (e : Int) = ((k * e : Nat) : Int) by simp]
    omega
  show List.filterMap (fun k => ds[(min (n : Int) (ds.length : Int) + ((k : Nat) : Int) * (e : Int)).toNat]?) _ = _
  rw [hg]
  by_cases h : n < ds.length
  · rw [Nat.min_eq_left (by omega)]
    unfold Builtin.Slice.slicePlaces
    rw [if_pos (by omega), if_pos (by omega)]
    have e1 : ((((ds.length : Int) - min (n : Int) (ds.length : Int) - 1) / (e : Int) + 1)).toNat = (ds.length - n - 1) / e + 1 := by
      rw [show (ds.length : Int) - min (n : Int) (ds.length : Int) - 1 = ((ds.length - n - 1 : Nat) : Int) by omega, ← Int.natCast_ediv, show (((ds.length - n - 1) / e : Nat) : Int) + 1 = (((ds.length - n - 1) / e + 1 : Nat) : Int) by omega, Int.toNat_natCast]
    rw [e1]
    refine (fm_range _ _ ?_ fun k hk => List.getElem?_eq_none ?_).symm
    · have := Nat.div_le_self (ds.length - n - 1) e
      omega
    · have h2 : (ds.length - n - 1) / e < k := by omega
      rw [Nat.div_lt_iff_lt_mul (by omega)] at h2
      omega
  · rw [Nat.min_eq_right (by omega)]
    unfold Builtin.Slice.slicePlaces
    rw [if_pos (by omega), if_neg (by omega)]
    rw [fm_range ds.length 0 (by omega) (fun k _ => List.getElem?_eq_none (by omega))]; rfl
theorem f_slS {ds : List D} {a d : Int} (hz : ds.length ≤ 16777216) (h0 : 0 ≤ a) (h1 : 0 < d) : fSliceS (.tuple ds) (some a) none (.int d) = some (.tuple (nth ds a.toNat d.toNat)) := by
  unfold fSliceS
  simp only
  by_cases h : d = 1
  · subst h
    rw [if_pos rfl, cut_f h0, show (1 : Int).toNat = 1 from rfl, nth_one]
  · rw [if_neg h]
    have e : pickD ds (HT.ixS ds.length (some a) none d) = nth ds a.toNat d.toNat := ixS_nth ds h0 (by omega)
    rw [e, if_pos ⟨by omega, Nat.le_trans (nth_len _ _ _) hz⟩]
end
/-! ### how long a display is -/
/-- a text of signs -/
def Sm (s : Str) : Prop := ∀ c ∈ s.cps.toList, c < 1114112
instance (s : Str) : Decidable (Sm s) := List.decidableBAll _ _
theorem sm_app {a b : Str} (ha : Sm a) (hb : Sm b) : Sm (a ++ b) := fun c hc => by
  have hc : c ∈ (a.cps ++ b.cps).toList := hc
  rw [Array.toList_append] at hc
  exact (List.mem_append.mp hc).elim (ha c) (hb c)
theorem sm_of (s : String) : Sm (Str.ofString s) := fun c hc => by
  rw [Str.ofString_eq_toList] at hc
  have hc : c ∈ (s.toList.map Char.toNat).toArray.toList := hc
  rw [List.toList_toArray] at hc
  obtain ⟨d, _, rfl⟩ := List.mem_map.mp hc
  have := d.valid
  have h2 : d.toNat = d.val.toNat := rfl
  rw [h2]
  unfold UInt32.isValidChar Nat.isValidChar at this
  omega
theorem sm_join {t : Str} (ht : Sm t) : ∀ l : List Str, (∀ s ∈ l, Sm s) → Sm (Str.join t l)
  | [], _ => sm_of ""
  | [x], h => h x List.mem_cons_self
  | x :: y :: r, h => sm_app (sm_app (h x List.mem_cons_self) ht) (sm_join ht (y :: r) fun z hz => h z (List.mem_cons_of_mem _ hz))
theorem sm_textFrom : ∀ (l : List Str) (k : Nat) (a : Str), Sm a → (∀ s ∈ l, Sm s) → Sm (textFrom k a l)
  | [], _, _, ha, _ => ha
  | t :: r, k, a, ha, h => sm_textFrom r (k + 1) _ (sm_app (sm_app ha (sm_of _)) (h t List.mem_cons_self)) fun z hz => h z (List.mem_cons_of_mem _ hz)
theorem dig_sm {c d : Nat} (h : d ∈ (Nat.toDigits 16 c).map Char.toNat) : d < 1114112 := by
  obtain ⟨e, _, rfl⟩ := List.mem_map.mp h
  have := e.valid
  have h2 : e.toNat = e.val.toNat := rfl
  rw [h2]
  unfold UInt32.isValidChar Nat.isValidChar at this
  omega
theorem sm_char {q c : Nat} (hc : c < 1114112) : ∀ d ∈ Builtin.Str.reprChar q c, d < 1114112 := by
  intro d hd
  unfold Builtin.Str.reprChar at hd
  have hx : ∀ w, d ∈ (List.replicate (w - ((Nat.toDigits 16 c).map Char.toNat).length) 48 ++ (Nat.toDigits 16 c).map Char.toNat) → d < 1114112 := fun w h => by
    rcases List.mem_append.mp h with h | h
    · have := List.eq_of_mem_replicate h; omega
    · exact dig_sm h
  have h2 : ∀ a b, d ∈ [a, b] → a < 1114112 → b < 1114112 → d < 1114112 := fun a b h h1 h2 => by
    simp only [List.mem_cons, List.not_mem_nil, or_false] at h
    omega
  dsimp only at hd
  split at hd
  · exact h2 _ _ hd (by decide) hc
  · split at hd
    · exact h2 _ _ hd (by decide) (by decide)
    · split at hd
      · exact h2 _ _ hd (by decide) (by decide)
      · split at hd
        · exact h2 _ _ hd (by decide) (by decide)
        · split at hd
          · rw [List.mem_singleton.mp hd]; exact hc
          · split at hd
            · rcases List.mem_append.mp hd with h | h
              · exact h2 _ _ h (by decide) (by decide)
              · exact hx 2 h
            · split at hd
              · rcases List.mem_append.mp hd with h | h
                · exact h2 _ _ h (by decide) (by decide)
                · exact hx 4 h
              · rcases List.mem_append.mp hd with h | h
                · exact h2 _ _ h (by decide) (by decide)
                · exact hx 8 h
theorem sm_fold (q : Nat) : ∀ (l : List Nat) (acc : Array Nat), (∀ c ∈ l, c < 1114112) → (∀ c ∈ acc.toList, c < 1114112) → ∀ c ∈ (l.foldl (fun out c => out ++ (Builtin.Str.reprChar q c).toArray) acc).toList, c < 1114112
  | [], _, _, h => h
  | x :: r, acc, h, h2 => sm_fold q r _ (fun c hc => h c (List.mem_cons_of_mem _ hc)) fun c hc => by
    rw [Array.toList_append, List.toList_toArray] at hc
    rcases List.mem_append.mp hc with h3 | h3
    · exact h2 c h3
    · exact sm_char (h x List.mem_cons_self) c h3
theorem sm_repr {s : Str} (h : Sm s) : Sm (reprText s) := by
  have hq : reprQuote s < 1114112 := by unfold reprQuote; split <;> decide
  intro c hc
  have hc : c ∈ ((s.cps.foldl (fun out c => out ++ (Builtin.Str.reprChar (reprQuote s) c).toArray) #[reprQuote s]).push (reprQuote s)).toList := hc
  rw [Array.toList_push, ← Array.foldl_toList] at hc
  rcases List.mem_append.mp hc with h1 | h1
  · exact sm_fold _ _ _ h (fun d hd => by
      have : d = reprQuote s := by simpa using hd
      rw [this]; exact hq) c h1
  · rw [List.mem_singleton.mp h1]; exact hq
mutual
def cst : D → Nat
  | .none => 4
  | .bool _ => 5
  | .int i => if i.natAbs.log2 < 1900 then i.natAbs.log2 + 3 else 1000000000
  | .str s => if Sm s then 10 * s.length + 2 else 1000000000
  | .list ds => csts ds + 3
  | .tuple ds => csts ds + 3
  | .dict es => cstk es + 3
def csts : List D → Nat
  | [] => 0
  | d :: r => cst d + 2 + csts r
def cstk : List (D × D) → Nat
  | [] => 0
  | (k, d) :: r => cst k + 2 + cst d + 2 + cstk r
end
theorem csts_app (ds es : List D) : csts (ds ++ es) = csts ds + csts es := by
  induction ds with
  | nil => simp [csts]
  | cons d r ih => rw [List.cons_append, csts, csts, ih]; omega
mutual
theorem cst_ok : ∀ d : D, cst d < 1000000000 → d.showable = true ∧ d.shown.length ≤ cst d
  | .none, _ => ⟨rfl, by decide⟩
  | .bool true, _ => ⟨rfl, by decide⟩
  | .bool false, _ => ⟨rfl, by decide⟩
  | .int i, h => by
    unfold cst at h ⊢
    by_cases z : i.natAbs.log2 < 1900
    · rw [if_pos z] at h ⊢
      refine ⟨?_, ?_⟩
      · unfold PyData.showable; exact decide_eq_true (by omega)
      · have := int_text_length_le (a := i) (k := i.natAbs.log2 + 1) (by omega) (by omega)
        unfold PyData.shown
        exact Nat.le_trans (Nat.le_of_eq (PySem.ofString_length _)) (by omega)
    · rw [if_neg z] at h; omega
  | .str s, h => by
    unfold cst at h ⊢
    by_cases z : Sm s
    · rw [if_pos z]
      exact ⟨rfl, by unfold PyData.shown; exact PySem.StrLaws.reprText_len s (fun c hc => by have := z c hc; omega)⟩
    · rw [if_neg z] at h; omega
  | .list ds, h => by
    have h' : csts ds < 1000000000 := by unfold cst at h; omega
    obtain ⟨h1, h3⟩ := csts_ok ds h'
    have h5 := textFrom_le (PyData.shownAll ds) 0 "["
    refine ⟨by rw [PyData.showable, h1], ?_⟩
    rw [PyData.shown]
    unfold listText cst
    rw [strLen_append]
    have e1 : (("[" : String) : Str).length = 1 := rfl
    have e2 : (("]" : String) : Str).length = 1 := rfl
    omega
  | .tuple ds, h => by
    have h' : csts ds < 1000000000 := by unfold cst at h; omega
    obtain ⟨h1, h3⟩ := csts_ok ds h'
    have h5 := join_le (PyData.shownAll ds)
    refine ⟨by rw [PyData.showable, h1], ?_⟩
    rw [PyData.shown]
    unfold tupleText cst
    rw [strLen_append, strLen_append]
    have e1 : (("(" : String) : Str).length = 1 := rfl
    have e2 : ((if (PyData.shownAll ds).length == 1 then ",)" else ")" : String) : Str).length ≤ 2 := by split <;> decide
    omega
  | .dict es, h => by
    have h' : cstk es < 1000000000 := by unfold cst at h; omega
    obtain ⟨h1, h3⟩ := cstk_ok es h'
    have h5 := join_le (PyData.shownKv es)
    refine ⟨by rw [PyData.showable, h1], ?_⟩
    rw [PyData.shown]
    unfold dictText cst
    rw [strLen_append, strLen_append]
    have e1 : (("{" : String) : Str).length = 1 := rfl
    have e2 : (("}" : String) : Str).length = 1 := rfl
    omega
theorem csts_ok : ∀ ds : List D, csts ds < 1000000000 → PyData.showableAll ds = true ∧ piled (PyData.shownAll ds) ≤ csts ds
  | [], _ => ⟨by simp [PyData.showableAll], by simp [PyData.shownAll, piled]⟩
  | d :: r, h => by
    unfold csts at h
    obtain ⟨h1, h3⟩ := csts_ok r (by omega)
    obtain ⟨g1, g3⟩ := cst_ok d (by omega)
    refine ⟨by rw [PyData.showableAll, g1, h1]; rfl, ?_⟩
    rw [PyData.shownAll, piled_cons]
    unfold csts
    omega
theorem cstk_ok : ∀ es : List (D × D), cstk es < 1000000000 → PyData.showableKv es = true ∧ piled (PyData.shownKv es) ≤ cstk es
  | [], _ => ⟨by simp [PyData.showableKv], by simp [PyData.shownKv, piled]⟩
  | (k, d) :: r, h => by
    unfold cstk at h
    obtain ⟨h1, h3⟩ := cstk_ok r (by omega)
    obtain ⟨g1, g3⟩ := cst_ok d (by omega)
    obtain ⟨k1, k3⟩ := cst_ok k (by omega)
    refine ⟨by rw [PyData.showableKv, k1, g1, h1]; rfl, ?_⟩
    rw [PyData.shownKv, piled_cons]
    unfold cstk
    rw [strLen_append, strLen_append]
    have e1 : ((": " : String) : Str).length = 2 := rfl
    omega
end
mutual
theorem cst_sm : ∀ d : D, cst d < 1000000000 → Sm d.shown
  | .none, _ => by unfold PyData.shown; exact sm_of _
  | .bool true, _ => by unfold PyData.shown; exact sm_of _
  | .bool false, _ => by unfold PyData.shown; exact sm_of _
  | .int i, _ => by unfold PyData.shown; exact sm_of _
  | .str s, h => by
    unfold cst at h
    by_cases z : Sm s
    · unfold PyData.shown; exact sm_repr z
    · rw [if_neg z] at h; omega
  | .list ds, h => by
    have h' : csts ds < 1000000000 := by unfold cst at h; omega
    rw [PyData.shown]
    exact sm_app (sm_textFrom _ _ _ (sm_of _) (csts_sm ds h')) (sm_of _)
  | .tuple ds, h => by
    have h' : csts ds < 1000000000 := by unfold cst at h; omega
    rw [PyData.shown]
    exact sm_app (sm_app (sm_of _) (sm_join (sm_of _) _ (csts_sm ds h'))) (sm_of _)
  | .dict es, h => by
    have h' : cstk es < 1000000000 := by unfold cst at h; omega
    rw [PyData.shown]
    exact sm_app (sm_app (sm_of _) (sm_join (sm_of _) _ (cstk_sm es h'))) (sm_of _)
theorem csts_sm : ∀ ds : List D, csts ds < 1000000000 → ∀ s ∈ PyData.shownAll ds, Sm s
  | [], _, s, hs => by simp [PyData.shownAll] at hs
  | d :: r, h, s, hs => by
    unfold csts at h
    rw [PyData.shownAll] at hs
    rcases List.mem_cons.mp hs with e | hs
    · rw [e]; exact cst_sm d (by omega)
    · exact csts_sm r (by omega) s hs
theorem cstk_sm : ∀ es : List (D × D), cstk es < 1000000000 → ∀ s ∈ PyData.shownKv es, Sm s
  | [], _, s, hs => by simp [PyData.shownKv] at hs
  | (k, d) :: r, h, s, hs => by
    unfold cstk at h
    rw [PyData.shownKv] at hs
    rcases List.mem_cons.mp hs with e | hs
    · rw [e]; exact sm_app (sm_app (cst_sm k (by omega)) (sm_of _)) (cst_sm d (by omega))
    · exact cstk_sm r (by omega) s hs
end
theorem cst_shown {d : D} {n : Nat} (h : cst d ≤ n) (hn : n < 1000000000) : cst (.str d.shown) ≤ 10 * n + 2 := by
  have h1 := cst_sm d (by omega)
  have h2 := (cst_ok d (by omega)).2
  unfold cst
  rw [if_pos h1]
  omega
def RpOk (d : D) : Prop := cst d ≤ 16777216 ∧ d.depth ≤ 64
theorem f_repr {d : D} (h : RpOk d) : fRepr [d] = some (.str d.shown) := by
  obtain ⟨h1, h3⟩ := cst_ok d (by have := h.1; omega)
  unfold fRepr
  exact if_pos ⟨h1, h.2, Nat.le_trans h3 h.1⟩
theorem cst_l (ds : List D) : cst (.list ds) = csts ds + 3 := by rw [cst]
theorem cst_t (ds : List D) : cst (.tuple ds) = csts ds + 3 := by rw [cst]
theorem cst_d0 : cst (.dict []) = 3 := by rw [cst, cstk]
theorem dep_d0 : PyData.depth (.dict []) = 1 := by rw [PyData.depth, PyData.depthKv]
theorem cst_n : cst .none = 4 := by rw [cst]
theorem cst_b (b : Bool) : cst (.bool b) = 5 := by rw [cst]
theorem csts_n : csts [] = 0 := by rw [csts]
theorem csts_c (d : D) (ds : List D) : csts (d :: ds) = cst d + 2 + csts ds := by rw [csts]
theorem cst_s (s : Str) (h : Sm s) : cst (.str s) = 10 * s.length + 2 := by rw [cst, if_pos h]
theorem cst_i {i : Int} (k : Nat) (hk : k < 1900) (h : i.natAbs < 2 ^ k) : cst (.int i) ≤ k + 3 := by
  unfold cst
  by_cases z : i.natAbs = 0
  · rw [z]
    rw [if_pos (by decide)]
    have : Nat.log2 0 = 0 := by decide
    omega
  · have := (Nat.log2_lt z).mpr h
    rw [if_pos (by omega)]
    omega
theorem csts_le {ds : List D} {n : Nat} (h : ∀ d ∈ ds, cst d ≤ n) : csts ds ≤ ds.length * (n + 2) := by
  induction ds with
  | nil => rw [csts]; omega
  | cons d r ih =>
    have h1 := h d List.mem_cons_self
    have h2 := ih fun x hx => h x (List.mem_cons_of_mem _ hx)
    rw [csts, List.length_cons, Nat.succ_mul]
    omega
theorem csts_map {κ : Type} {e : κ → D} {xs : List κ} {n : Nat} (m : Nat) (h : ∀ x ∈ xs, cst (e x) ≤ n) (hm : xs.length ≤ m) : csts (xs.map e) ≤ m * (n + 2) := by
  have := csts_le (ds := xs.map e) (n := n) fun d hd => by
    obtain ⟨x, hx, rfl⟩ := List.mem_map.mp hd
    exact h x hx
  rw [List.length_map] at this
  exact Nat.le_trans this (Nat.mul_le_mul_right _ hm)
theorem csts_ints {ns : List Int} (m k : Nat) (hk : k < 1900) (h : ∀ x ∈ ns, x.natAbs < 2 ^ k) (hm : ns.length ≤ m) : csts (ns.map .int) ≤ m * (k + 5) := csts_map m (fun x hx => cst_i k hk (h x hx)) hm
theorem cst_dT {ns : List Int} (m k : Nat) (hk : k < 1900) (h : ∀ x ∈ ns, x.natAbs < 2 ^ k) (hm : ns.length ≤ m) : cst (dT ns) ≤ m * (k + 5) + 3 := by
  have := csts_ints m k hk h hm
  unfold dT
  rw [cst]
  omega
theorem dep_l (ds : List D) : PyData.depth (.list ds) = PyData.depthAll ds + 1 := by rw [PyData.depth]
theorem dep_t (ds : List D) : PyData.depth (.tuple ds) = PyData.depthAll ds + 1 := by rw [PyData.depth]
theorem dep_n : PyData.depth .none = 0 := by rw [PyData.depth]
theorem dep_b (b : Bool) : PyData.depth (.bool b) = 0 := by rw [PyData.depth]
theorem dep_i (i : Int) : PyData.depth (.int i) = 0 := by rw [PyData.depth]
theorem dep_s (s : Str) : PyData.depth (.str s) = 0 := by rw [PyData.depth]
theorem deps_n : PyData.depthAll [] = 0 := by rw [PyData.depthAll]
theorem deps_c (d : D) (ds : List D) : PyData.depthAll (d :: ds) = max (PyData.depth d) (PyData.depthAll ds) := by rw [PyData.depthAll]
theorem deps_i (ns : List Int) : PyData.depthAll (ns.map .int) = 0 := by
  induction ns with
  | nil => rw [List.map_nil, deps_n]
  | cons n r ih => rw [List.map_cons, deps_c, ih, dep_i]; rfl
theorem deps_le {κ : Type} {e : κ → D} {xs : List κ} (n : Nat) (h : ∀ x ∈ xs, PyData.depth (e x) ≤ n) : PyData.depthAll (xs.map e) ≤ n := by
  induction xs with
  | nil => rw [List.map_nil, deps_n]; omega
  | cons x r ih =>
    rw [List.map_cons, deps_c]
    have h1 := h x List.mem_cons_self
    have h2 := ih fun x hx => h x (List.mem_cons_of_mem _ hx)
    omega
theorem dep_dT (ns : List Int) : PyData.depth (dT ns) = 1 := by unfold dT; rw [dep_t, deps_i]
theorem deps_t (l : List (List Int)) : PyData.depthAll (l.map dT) ≤ 1 := deps_le 1 fun x _ => by rw [dep_dT]; exact Nat.le_refl _
end FL

namespace FL
open PySem L2
/-! ### more of readings -/
def EvP {π : Type} (ζ : SP π) (σ : Sg) (p : π) (R : D → Sg → π → Prop) : Prop := ∃ d σ' p', ζ σ p = some (d, σ', p') ∧ R d σ' p'
section
variable {π : Type} {ζ : SP π} {α : SE π} {σ : Sg} {p : π} {i : Nat} {R : D → Sg → π → Prop} {RO : Out π → Prop}
theorem w_pop : EvP (xPop i) σ p R ↔ OwnS σ i fun ds => Op (ds[ds.length - 1]?) fun d => R d (σ.set i (.own ds.dropLast)) p := by
  unfold EvP xPop OwnS Op
  constructor
  · rintro ⟨d, σ', p', h, k⟩
    split at h
    · rename_i ds e
      obtain ⟨x, h1, h2⟩ := mpd h
      cases h2
      exact ⟨ds, e, _, h1, k⟩
    · cases h
  · rintro ⟨ds, e, d, h1, k⟩
    exact ⟨d, _, _, by rw [e]; show Option.map _ _ = _; rw [h1]; rfl, k⟩
theorem w_popAt : EvP (xPopAt i α) σ p R ↔ EvE α σ p fun x p1 => OwnS σ i fun ds => IntS x fun n => (-(2 ^ 63) ≤ n ∧ n < 2 ^ 63) ∧ Op (ixN ds.length n) fun k => Op (ds[k]?) fun d => R d (σ.set i (.own (ds.eraseIdx k))) p1 := by
  unfold EvP xPopAt OwnS Op IntS EvE
  constructor
  · rintro ⟨d, σ', p', h, k⟩
    obtain ⟨⟨x, p1⟩, h0, h⟩ := bnd h
    split at h
    · rename_i ds n e1 e2
      split at h
      · rename_i hr
        obtain ⟨j, h1, h⟩ := bnd h
        obtain ⟨y, h2, h3⟩ := mpd h
        cases h3
        exact ⟨x, p1, h0, ds, e1, n, e2, hr, j, h1, _, h2, k⟩
      · cases h
    · cases h
  · rintro ⟨x, p1, h0, ds, e1, n, e2, hr, j, h1, y, h2, k⟩
    refine ⟨y, _, _, ?_, k⟩
    rw [h0]
    show (match σ[i]?, x with
      | some (.own ds), .int n => if -(2 ^ 63) ≤ n ∧ n < 2 ^ 63 then (ixN ds.length n).bind fun k => (ds[k]?).map fun d => (d, σ.set i (.own (ds.eraseIdx k)), p1) else none
      | _, _ => none) = _
    rw [e1, e2]
    show (if _ then _ else _) = _
    rw [if_pos hr, h1]
    show Option.map _ _ = _
    rw [h2]; rfl
theorem w_setP : Ends (sSetP i ζ) σ p RO ↔ EvP ζ σ p fun d σ' p1 => RO (.nx (σ'.set i (.val d)) p1) := by
  unfold Ends sSetP EvP
  rw [ends_map]
  exact ⟨fun ⟨x, h, k⟩ => ⟨x.1, x.2.1, x.2.2, h, k⟩, fun ⟨d, s, q, h, k⟩ => ⟨_, h, k⟩⟩
theorem w_dropP : Ends (sDropP ζ) σ p RO ↔ EvP ζ σ p fun d σ' p1 => RO (.nx σ' p1) := by
  unfold Ends sDropP EvP
  rw [ends_map]
  exact ⟨fun ⟨x, h, k⟩ => ⟨x.1, x.2.1, x.2.2, h, k⟩, fun ⟨d, s, q, h, k⟩ => ⟨_, h, k⟩⟩
theorem w_asgP {τ : D → Sg → Option Sg} : Ends (sAsgP ζ τ) σ p RO ↔ EvP ζ σ p fun d σ' p1 => Op (τ d σ') fun σ1 => RO (.nx σ1 p1) := by
  unfold Ends sAsgP EvP
  rw [ends_bind]
  constructor
  · rintro ⟨x, h, k⟩
    rw [ends_map] at k
    exact ⟨x.1, x.2.1, x.2.2, h, k⟩
  · rintro ⟨d, s, q, h, k⟩
    refine ⟨_, h, ?_⟩
    rw [ends_map]; exact k
theorem w_appP : Ends (sAppP i ζ) σ p RO ↔ EvP ζ σ p fun d σ' p1 => OwnS σ i fun _ => OwnS σ' i fun ds => ds.length < sizeLine ∧ RO (.nx (σ'.set i (.own (ds ++ [d]))) p1) := by
  unfold Ends sAppP EvP OwnS
  rw [ends_bind]
  constructor
  · rintro ⟨⟨d, s, q⟩, h, o, h2, k⟩
    split at h2
    · rename_i es ds e1 e2
      split at h2
      · rename_i hl
        cases h2
        exact ⟨d, s, q, h, es, e1, ds, e2, hl, k⟩
      · cases h2
    · cases h2
  · rintro ⟨d, s, q, h, es, e1, ds, e2, hl, k⟩
    refine ⟨_, h, _, ?_, k⟩
    show (match σ[i]?, s[i]? with
      | some (.own _), some (.own ds) => if ds.length < sizeLine then some (Out.nx (s.set i (.own (ds ++ [d]))) q) else none
      | _, _ => none) = _
    rw [e1, e2]
    exact if_pos hl
end
theorem flat_map {κ : Type} (f : κ → D) (n : Nat) (xs : List κ) : (List.replicate n (xs.map f)).flatten = ((List.replicate n xs).flatten).map f := by
  induction n with
  | zero => rfl
  | succ n ih => rw [List.replicate_succ, List.flatten_cons, ih, List.replicate_succ, List.flatten_cons, List.map_append]
theorem flat_one {a : Int} {n : Nat} : (List.replicate n [PyData.int a]).flatten = (List.replicate n a).map .int := by
  rw [show [PyData.int a] = [a].map .int from rfl, flat_map]; congr 1
  induction n with
  | zero => rfl
  | succ n ih => rw [List.replicate_succ, List.flatten_cons, ih, List.replicate_succ]; rfl
theorem f_mulT1 {n a : Int} (h0 : -9223372036854775808 ≤ n) (h1 : n ≤ 1000) : fMulA (.tuple [.int a]) (.int n) = some (.tuple ((List.replicate n.toNat a).map .int)) := by
  unfold fMulA fMulT
  show (if _ then _ else none) = _
  rw [if_pos ⟨by omega, h1, by simp⟩]
  congr 2
  have := flat_map PyData.int n.toNat [a]
  rw [show List.map PyData.int [a] = [.int a] from rfl] at this
  rw [this]
  congr 1
  generalize n.toNat = k
  induction k with
  | zero => rfl
  | succ k ih => rw [List.replicate_succ, List.flatten_cons, ih, List.replicate_succ]; rfl
theorem erase_mapG {κ : Type} (f : κ → D) (l : List κ) (k : Nat) : (l.map f).eraseIdx k = (l.eraseIdx k).map f := erase_map f l k
section
variable {π : Type} {ω : SL π} {σ : Sg} {p : π}
theorem w_tupRg {R : D → π → Prop} : EvE (xTupRg ω) σ p R ↔ EvE ω σ p fun ds p1 => Op (fRg ds) fun z => R (.tuple z) p1 := by
  unfold EvE xTupRg; simp only [ev_bind, ev_map]
theorem w_lstRg {R : List D → π → Prop} : EvE (lLstRg ω) σ p R ↔ EvE ω σ p fun ds p1 => Op (fRg ds) fun z => R z p1 := by
  unfold EvE lLstRg; simp only [ev_bind, ev_map]
end
theorem f_rg1 {b : Int} (h0 : 0 ≤ b) (h : b ≤ 16777216) : fRg [.int b] = some ((rng b.toNat).map .int) := by
  show (if rgOk 0 b = true then some (rngL 0 (b - 0).toNat) else none) = _
  rw [if_pos, Int.sub_zero, rngL0]
  unfold rgOk
  simp only [Bool.and_eq_true, decide_eq_true_eq]
  omega
theorem f_rg2 {a b : Int} (h0 : -4611686018427387904 ≤ a) (h1 : a < 4611686018427387904) (h2 : -4611686018427387904 ≤ b) (h3 : b < 4611686018427387904) (h : b - a ≤ 16777216) : fRg [.int a, .int b] = some ((rngI a b).map .int) := by
  show (if rgOk a b = true then some (rngL a (b - a).toNat) else none) = _
  rw [if_pos]
  · unfold rngL rngI
    rw [List.map_map]; rfl
  · unfold rgOk
    simp only [Bool.and_eq_true, decide_eq_true_eq]
    omega
section
variable {d e : D} {ds es : List D} {σ : Sg} {τ : D → Sg → Option Sg} {τs : List D → Sg → Option Sg}
theorem tg_nil : tgNil [] σ = some σ := rfl
theorem tg_cons : tgCons τ τs (d :: ds) σ = (τ d σ).bind fun σ' => τs ds σ' := rfl
theorem tg_tup : tgTup τs (.tuple ds) σ = τs ds σ := rfl
theorem f_eqTE : fEq (.tuple ds) (.tuple []) = some (.bool ds.isEmpty) := by
  unfold fEq eqD
  split
  · rename_i h; cases h
  · by_cases h : (SeqAt.shaped (.tuple ds) && SeqAt.shaped (.tuple [])) = true
    · rw [if_pos h]
      cases ds <;> rfl
    · rw [if_neg h]; rfl
theorem f_neTE : fNe (.tuple ds) (.tuple []) = some (.bool (!ds.isEmpty)) := by
  have h := f_eqTE (ds := ds)
  unfold fEq at h
  unfold fNe
  obtain ⟨b, h1, h2⟩ := mpd h
  rw [h1]
  cases h2; rfl
theorem f_eqLE : fEq (.list ds) (.list []) = some (.bool ds.isEmpty) := by
  unfold fEq eqD
  split
  · rename_i h; cases h
  · by_cases h : (SeqAt.shaped (.list ds) && SeqAt.shaped (.list [])) = true
    · rw [if_pos h]
      cases ds <;> rfl
    · rw [if_neg h]; rfl
theorem f_neLE : fNe (.list ds) (.list []) = some (.bool (!ds.isEmpty)) := by
  have h := f_eqLE (ds := ds)
  unfold fEq at h
  unfold fNe
  obtain ⟨b, h1, h2⟩ := mpd h
  rw [h1]
  cases h2; rfl
/-- t[::-1] -/
theorem ix_rev {κ : Type} (xs : List κ) : (HT.ixS xs.length none none (-1)).filterMap (fun k => xs[k]?) = xs.reverse := by
  unfold HT.ixS
  have hc : Builtin.Slice.sliceAdjust none none (-1) xs.length = ((xs.length : Int) - 1, -1) := rfl
  rw [hc, List.filterMap_map]
  have hp : Builtin.Slice.slicePlaces ((xs.length : Int) - 1) (-1) (-1) = xs.length := by
    unfold Builtin.Slice.slicePlaces
    rw [if_neg (by decide)]
    split
    · rw [show -(-1 : Int) = 1 by decide, Int.ediv_one]; omega
    · omega
  show List.filterMap _ (List.range (Builtin.Slice.slicePlaces ((xs.length : Int) - 1) (-1) (-1))) = _
  rw [hp]
  apply List.ext_getElem?
  intro i
  have key : ∀ (n : Nat), n ≤ xs.length → (List.range n).filterMap ((fun k => xs[k]?) ∘ fun k => (((xs.length : Int) - 1) + (k : Nat) * (-1)).toNat) = (xs.reverse.take n) := by
    intro n
    induction n with
    | zero => intro _; rfl
    | succ n ih =>
      intro hn
      rw [List.range_succ, List.filterMap_append, ih (by omega), List.take_add_one]
      congr 1
      simp only [List.filterMap_cons, List.filterMap_nil, Function.comp]
      rw [show (((xs.length : Int) - 1) + (n : Int) * (-1)).toNat = xs.length - 1 - n by omega, List.getElem?_eq_getElem (by omega), List.getElem?_reverse (by omega), List.getElem?_eq_getElem (by omega)]
      rfl
  rw [key _ (Nat.le_refl _), List.take_of_length_le (by simp)]
theorem f_rev (h : ds.length ≤ 16777216) : fSliceS (.tuple ds) none none (.int (-1)) = some (.tuple ds.reverse) := by
  have e : pickD ds (HT.ixS ds.length none none (-1)) = ds.reverse := ix_rev ds
  unfold fSliceS
  simp only
  rw [if_neg (by decide), e, if_pos ⟨by decide, by rw [List.length_reverse]; exact h⟩]
theorem map_rv {κ : Type} (f : κ → D) (l : List κ) : (l.map f).reverse = l.reverse.map f := List.map_reverse.symm
theorem f_mulTI {n : Int} (h0 : -9223372036854775808 ≤ n) (h1 : n ≤ 1000) (h2 : ds.length ≤ 1000) : fMulA (.tuple ds) (.int n) = some (.tuple (List.replicate n.toNat ds).flatten) := by
  unfold fMulA fMulT
  show (if _ then _ else none) = _
  rw [if_pos ⟨by omega, h1, h2⟩]
theorem f_catL' (h : ds.length + es.length ≤ 16777216) : fCat (.list ds) (.list es) = some (ds ++ es) := f_catL h
theorem ixN_last {n : Nat} (h : 0 < n) : ixN n (-1) = some (n - 1) := by
  unfold ixN
  rw [if_neg (by decide), if_pos (by omega)]
  congr 1
  omega
theorem ixN_p {n : Nat} {k : Int} (h0 : 0 ≤ k) (h1 : k < n) : ixN n k = some k.toNat := ixN_of h0 h1
theorem cst_mem {x : D} : ∀ {ds : List D}, x ∈ ds → cst x + 2 ≤ csts ds
  | d :: r, h => by
    rw [csts]
    rcases List.mem_cons.mp h with e | h
    · rw [e]; omega
    · have := cst_mem h; omega
theorem cst_len : ∀ ds : List D, 2 * ds.length ≤ csts ds
  | [] => by rw [csts]; simp
  | d :: r => by have := cst_len r; rw [csts, List.length_cons]; omega
theorem cst_sub {ds es : List D} (h : ds.Sublist es) : csts ds ≤ csts es := by
  induction h with
  | slnil => exact Nat.le_refl _
  | cons a _ ih => rw [csts]; omega
  | cons_cons a _ ih => rw [csts, csts]; omega
theorem cst_rev (ds : List D) : csts ds.reverse = csts ds := by
  induction ds with
  | nil => rfl
  | cons d r ih => rw [List.reverse_cons, csts_app, ih, csts, csts, csts]; omega
theorem dep_mem {x : D} : ∀ {ds : List D}, x ∈ ds → x.depth ≤ PyData.depthAll ds
  | d :: r, h => by
    rw [deps_c]
    rcases List.mem_cons.mp h with e | h
    · rw [e]; omega
    · have := dep_mem h; omega
theorem deps_bd {ds : List D} {n : Nat} (h : ∀ x ∈ ds, x.depth ≤ n) : PyData.depthAll ds ≤ n := by
  have := deps_le (e := fun x : D => x) (xs := ds) n h
  rwa [List.map_id'] at this
end
/-- a value of some size -/
def Vb (c k : Nat) (v : D) : Prop := cst v ≤ c ∧ v.depth ≤ k
theorem Vb.mono {c k c' k' : Nat} {v : D} (h : Vb c k v) (hc : c ≤ c') (hk : k ≤ k') : Vb c' k' v := ⟨Nat.le_trans h.1 hc, Nat.le_trans h.2 hk⟩
theorem Vb.rp {c k : Nat} {v : D} (h : Vb c k v) (hc : c ≤ 10000000) (hk : k ≤ 60) : RpOk (.list [v]) := by
  refine ⟨?_, ?_⟩
  · rw [cst_l, csts_c, csts_n]; have := h.1; omega
  · rw [dep_l, deps_c, deps_n]; have := h.2; omega
theorem Vb.tup {c k : Nat} {ds : List D} (h : Vb c k (.tuple ds)) : csts ds + 3 ≤ c ∧ PyData.depthAll ds + 1 ≤ k := ⟨by have := h.1; rwa [cst_t] at this, by have := h.2; rwa [dep_t] at this⟩
theorem Vb.tup_len {c k : Nat} {ds : List D} (h : Vb c k (.tuple ds)) : 2 * ds.length + 3 ≤ c := by
  have := h.tup.1
  have := cst_len ds
  omega
theorem Vb.mk {c k : Nat} {ds : List D} (h1 : csts ds + 3 ≤ c) (h2 : PyData.depthAll ds + 1 ≤ k) : Vb c k (.tuple ds) := ⟨by rw [cst_t]; exact h1, by rw [dep_t]; exact h2⟩
theorem Vb.mkL {c k : Nat} {ds : List D} (h1 : csts ds + 3 ≤ c) (h2 : PyData.depthAll ds + 1 ≤ k) : Vb c k (.list ds) := ⟨by rw [cst_l]; exact h1, by rw [dep_l]; exact h2⟩
theorem Vb.item {c k : Nat} {ds : List D} {x : D} (h : Vb c k (.tuple ds)) (hx : x ∈ ds) : Vb c k x := by
  have h1 := h.tup
  have h2 := cst_mem hx
  have h3 := dep_mem hx
  exact ⟨by omega, by omega⟩
theorem deps_app (ds es : List D) : PyData.depthAll (ds ++ es) = max (PyData.depthAll ds) (PyData.depthAll es) := by
  induction ds with
  | nil => rw [List.nil_append, deps_n]; omega
  | cons d r ih => rw [List.cons_append, deps_c, deps_c, ih]; omega
theorem deps_sub {ds es : List D} (h : ∀ x ∈ ds, x ∈ es) : PyData.depthAll ds ≤ PyData.depthAll es := deps_bd fun x hx => dep_mem (h x hx)
theorem Vb.small {c k : Nat} {v : D} (h : Nat.ble (cst v) c = true) (h2 : Nat.ble v.depth k = true) : Vb c k v := ⟨Nat.le_of_ble_eq_true h, Nat.le_of_ble_eq_true h2⟩
/-- the first one that is bad -/
def badIx {κ : Type} (f : κ → Bool) (ds : List κ) : List Int := ((idxG 0 ds).filter fun q => f q.2).map (·.1)
theorem idxG_app {κ : Type} : ∀ (k : Nat) (a b : List κ), idxG k (a ++ b) = idxG k a ++ idxG (k + a.length) b
  | k, [], b => rfl
  | k, x :: r, b => by
    show _ :: idxG (k + 1) (r ++ b) = _ :: (idxG (k + 1) r ++ _)
    rw [idxG_app (k + 1) r b, List.length_cons, show k + 1 + r.length = k + (r.length + 1) by omega]
theorem idxG_filter_nil {κ : Type} {f : κ → Bool} : ∀ (k : Nat) (a : List κ), (∀ x ∈ a, f x = false) → (idxG k a).filter (fun q => f q.2) = []
  | k, [], _ => rfl
  | k, x :: r, h => by
    show (((k : Int), x) :: idxG (k + 1) r).filter _ = []
    rw [List.filter_cons, h x List.mem_cons_self, if_neg (by simp), idxG_filter_nil (k + 1) r fun y hy => h y (List.mem_cons_of_mem _ hy)]
theorem badIx_nil {κ : Type} {f : κ → Bool} {a : List κ} (h : ∀ x ∈ a, f x = false) : badIx f a = [] := by unfold badIx; rw [idxG_filter_nil 0 a h]; rfl
theorem badIx_hit {κ : Type} {f : κ → Bool} {a b : List κ} {x : κ} (h : ∀ x ∈ a, f x = false) (hx : f x = true) : ∃ r, badIx f (a ++ x :: b) = ((a.length : Nat) : Int) :: r := by
  unfold badIx
  rw [idxG_app, List.filter_append, idxG_filter_nil 0 a h, List.nil_append]
  show ∃ r, (List.filter (fun q : Int × κ => f q.2) ((((0 + a.length : Nat) : Int), x) :: idxG (0 + a.length + 1) b)).map _ = _
  rw [List.filter_cons, if_pos (show f x = true from hx), List.map_cons, Nat.zero_add]
  exact ⟨_, rfl⟩
theorem idxG_pre {κ : Type} {k : Nat} {xs : List κ} {pre post : List (Int × κ)} {q : Int × κ} (h : idxG k xs = pre ++ q :: post) : ∃ a b, xs = a ++ q.2 :: b ∧ pre = idxG k a ∧ q.1 = ((k + a.length : Nat) : Int) := by
  induction xs generalizing k pre with
  | nil =>
    have : (idxG k ([] : List κ)) = [] := rfl
    rw [this] at h
    cases pre <;> cases h
  | cons x r ih =>
    have e : idxG k (x :: r) = ((k : Int), x) :: idxG (k + 1) r := rfl
    rw [e] at h
    cases pre with
    | nil =>
      have h1 := List.cons.inj h
      exact ⟨[], r, by rw [← h1.1]; rfl, rfl, by rw [← h1.1]; rfl⟩
    | cons y pre =>
      have h1 := List.cons.inj h
      obtain ⟨a, b, g1, g2, g3⟩ := ih h1.2
      refine ⟨x :: a, b, by rw [g1]; rfl, ?_, ?_⟩
      · rw [← h1.1, g2]; rfl
      · rw [g3, List.length_cons]; congr 1; omega
/-- for k, x in enumerate(..): if bad: return .. -/
theorem loopBad {π κ : Type} {τ : D → Sg → Option Sg} {ψ : SS π} {e : κ → D} {xs : List κ} {σ : Sg} {p : π} {R : Out π → Prop} (f : κ → Bool) (S : Sl → Sl → Sg) (w : Int → D) {a0 b0 : Sl} (h0 : σ = S a0 b0)
    (H : ∀ x ∈ xs, ∀ (k : Int) (a b : Sl), Op (τ (.tuple [.int k, e x]) (S a b)) fun σ1 => Ends ψ σ1 p fun o => (f x = true ∧ o = .rt (w k) p) ∨ (f x = false ∧ ∃ a b, o = .nx (S a b) p))
    (hd : ∀ a b, badIx f xs = [] → R (.nx (S a b) p)) (hr : ∀ k r, badIx f xs = k :: r → R (.rt (w k) p)) : LoopR τ ψ (enumL 0 (xs.map e)) σ p R := by
  rw [enumL_G]
  refine loopP (xs := idxG 0 xs) (e := fun q => .tuple [.int q.1, e q.2]) (fun pre σ q => (q = p ∧ ∃ a b : Sl, σ = S a b) ∧ ∀ q ∈ pre, f q.2 = false) ⟨⟨rfl, a0, b0, h0⟩, fun q h => by cases h⟩ ?_ ?_
  · rintro pre q post σ p1 hx ⟨⟨rfl, a, b, rfl⟩, hp⟩
    obtain ⟨c, d, h1, h2, h3⟩ := idxG_pre hx
    have hpa : ∀ x ∈ c, f x = false := fun x hx => by
      obtain ⟨i, hi⟩ := List.mem_iff_getElem?.mp hx
      exact hp (((0 + i : Nat) : Int), x) (by rw [h2]; exact idxG_mem.mpr ⟨i, rfl, hi⟩)
    obtain ⟨σ1, g1, o, g2, g3⟩ := H q.2 (by rw [h1]; simp) q.1 a b
    refine ⟨σ1, g1, o, g2, ?_⟩
    rcases g3 with ⟨hf, rfl⟩ | ⟨hf, a', b', rfl⟩
    · obtain ⟨r, hr'⟩ := badIx_hit (f := f) (b := d) hpa hf
      rw [← h1] at hr'
      have := hr _ _ hr'
      rw [Nat.zero_add] at h3
      rw [← h3] at this
      exact this
    · refine ⟨⟨rfl, a', b', rfl⟩, fun r hr => ?_⟩
      rcases List.mem_append.mp hr with h | h
      · exact hp r h
      · rw [List.mem_singleton.mp h]; exact hf
  · rintro σ p1 ⟨⟨rfl, a, b, rfl⟩, hp⟩
    refine hd a b (badIx_nil fun x hx => ?_)
    obtain ⟨i, hi⟩ := List.mem_iff_getElem?.mp hx
    exact hp (((0 + i : Nat) : Int), x) (idxG_mem.mpr ⟨i, rfl, hi⟩)
/-- [k for k, x in enumerate(..) if bad] -/
theorem compBad {π κ : Type} {τ : D → Sg → Option Sg} {φ : SB π} {α : SE π} {own : List Nat} {e : κ → D} {xs : List κ} {σ : Sg} {p : π} {R : List D → π → Prop} (f : κ → Bool)
    (H : ∀ x ∈ xs, ∀ k : Int, Op (τ (.tuple [.int k, e x]) (wipeS σ own)) fun s => EvE φ s p fun b p1 => b = f x ∧ p1 = p ∧ (f x = true → EvE α s p fun d p2 => d = .int k ∧ p2 = p))
    (k : R ((badIx f xs).map .int) p) (hl : xs.length ≤ 16777216 := by first | assumption | omega | (simp only [rng_len, rngI_len, idxG_len, List.length_map, List.length_zip]; omega)) (hp : plainAt σ own = true := by rfl) : CompR own τ φ α (enumL 0 (xs.map e)) σ p R := by
  rw [enumL_G]
  refine compP (xs := idxG 0 xs) (e := fun q => .tuple [.int q.1, e q.2]) .int (fun q => f q.2) (fun q => q.1) (fun q hq => ?_) k (by rw [idxG_len]; exact hl) hp
  obtain ⟨i, _, hi⟩ := idxG_mem.mp hq
  exact H q.2 (List.mem_of_getElem? hi) q.1
/-- an integer, no bool -/
def isI : D → Bool
  | .int _ => true
  | _ => false
theorem isI_n : isI .none = false := rfl
theorem isI_b {b : Bool} : isI (.bool b) = false := rfl
theorem isI_i {i : Int} : isI (.int i) = true := rfl
theorem isI_s {x : Str} : isI (.str x) = false := rfl
theorem isI_l {ds : List D} : isI (.list ds) = false := rfl
theorem isI_t {ds : List D} : isI (.tuple ds) = false := rfl
theorem isI_d {es : List (D × D)} : isI (.dict es) = false := rfl
theorem isTup_n : isTup .none = false := rfl
theorem isTup_b {b : Bool} : isTup (.bool b) = false := rfl
theorem isTup_i {i : Int} : isTup (.int i) = false := rfl
theorem isTup_s {x : Str} : isTup (.str x) = false := rfl
theorem isTup_l {ds : List D} : isTup (.list ds) = false := rfl
theorem isTup_t {ds : List D} : isTup (.tuple ds) = true := rfl
theorem isTup_d {es : List (D × D)} : isTup (.dict es) = false := rfl
theorem isLst_n : isLst .none = false := rfl
theorem isLst_b {b : Bool} : isLst (.bool b) = false := rfl
theorem isLst_i {i : Int} : isLst (.int i) = false := rfl
theorem isLst_s {x : Str} : isLst (.str x) = false := rfl
theorem isLst_l {ds : List D} : isLst (.list ds) = true := rfl
theorem isLst_t {ds : List D} : isLst (.tuple ds) = false := rfl
theorem isLst_d {es : List (D × D)} : isLst (.dict es) = false := rfl
theorem isIntD_n : isIntD .none = false := rfl
theorem isIntD_b {b : Bool} : isIntD (.bool b) = true := rfl
theorem isIntD_i {i : Int} : isIntD (.int i) = true := rfl
theorem isIntD_s {x : Str} : isIntD (.str x) = false := rfl
theorem isIntD_l {ds : List D} : isIntD (.list ds) = false := rfl
theorem isIntD_t {ds : List D} : isIntD (.tuple ds) = false := rfl
theorem isIntD_d {es : List (D × D)} : isIntD (.dict es) = false := rfl
theorem isBoolD_n : isBoolD .none = false := rfl
theorem isBoolD_b {b : Bool} : isBoolD (.bool b) = true := rfl
theorem isBoolD_i {i : Int} : isBoolD (.int i) = false := rfl
theorem isBoolD_s {x : Str} : isBoolD (.str x) = false := rfl
theorem isBoolD_l {ds : List D} : isBoolD (.list ds) = false := rfl
theorem isBoolD_t {ds : List D} : isBoolD (.tuple ds) = false := rfl
theorem isBoolD_d {es : List (D × D)} : isBoolD (.dict es) = false := rfl
theorem isStrD_n : isStrD .none = false := rfl
theorem isStrD_b {b : Bool} : isStrD (.bool b) = false := rfl
theorem isStrD_i {i : Int} : isStrD (.int i) = false := rfl
theorem isStrD_s {x : Str} : isStrD (.str x) = true := rfl
theorem isStrD_l {ds : List D} : isStrD (.list ds) = false := rfl
theorem isStrD_t {ds : List D} : isStrD (.tuple ds) = false := rfl
theorem isStrD_d {es : List (D × D)} : isStrD (.dict es) = false := rfl
theorem isDictD_n : isDictD .none = false := rfl
theorem isDictD_b {b : Bool} : isDictD (.bool b) = false := rfl
theorem isDictD_i {i : Int} : isDictD (.int i) = false := rfl
theorem isDictD_s {x : Str} : isDictD (.str x) = false := rfl
theorem isDictD_l {ds : List D} : isDictD (.list ds) = false := rfl
theorem isDictD_t {ds : List D} : isDictD (.tuple ds) = false := rfl
theorem isDictD_d {es : List (D × D)} : isDictD (.dict es) = true := rfl
theorem hid_c {s : Sl} {σ : Sg} : (s :: σ).map hid = hid s :: σ.map hid := rfl
theorem hid_nl : ([] : Sg).map hid = [] := rfl
theorem val_c {d : D} {ds : List D} : (d :: ds).map Sl.val = .val d :: ds.map Sl.val := rfl
theorem val_nl : ([] : List D).map Sl.val = [] := rfl
theorem perm_c {i : Nat} {r : List Nat} {ds : List D} : permD (i :: r) ds = ds.getD i .none :: permD r ds := rfl
theorem perm_n {ds : List D} : permD [] ds = [] := rfl
theorem f_in1 {a b : Int} : fIn (.int a) (.tuple [.int b]) = some (.bool (decide (a = b))) := by
  have h := f_inT (a := a) [b]
  simp only [List.mem_cons, List.not_mem_nil, or_false] at h
  exact h
theorem f_nin1 {a b : Int} : fNin (.int a) (.tuple [.int b]) = some (.bool (!decide (a = b))) := by
  have h := f_ninT (a := a) [b]
  simp only [List.mem_cons, List.not_mem_nil, or_false] at h
  exact h
theorem f_in1L {a b : Int} : fIn (.int a) (.list [.int b]) = some (.bool (decide (a = b))) := by
  have h := f_inL (a := a) [b]
  simp only [List.mem_cons, List.not_mem_nil, or_false] at h
  exact h
theorem f_nin1L {a b : Int} : fNin (.int a) (.list [.int b]) = some (.bool (!decide (a = b))) := by
  have h := f_ninL (a := a) [b]
  simp only [List.mem_cons, List.not_mem_nil, or_false] at h
  exact h
theorem f_in2 {a b c : Int} : fIn (.int a) (.tuple [.int b, .int c]) = some (.bool (decide (a = b ∨ a = c))) := by
  have h := f_inT (a := a) [b, c]
  simp only [List.mem_cons, List.not_mem_nil, or_false] at h
  exact h
theorem f_nin2 {a b c : Int} : fNin (.int a) (.tuple [.int b, .int c]) = some (.bool (!decide (a = b ∨ a = c))) := by
  have h := f_ninT (a := a) [b, c]
  simp only [List.mem_cons, List.not_mem_nil, or_false] at h
  exact h
theorem f_in2L {a b c : Int} : fIn (.int a) (.list [.int b, .int c]) = some (.bool (decide (a = b ∨ a = c))) := by
  have h := f_inL (a := a) [b, c]
  simp only [List.mem_cons, List.not_mem_nil, or_false] at h
  exact h
theorem f_nin2L {a b c : Int} : fNin (.int a) (.list [.int b, .int c]) = some (.bool (!decide (a = b ∨ a = c))) := by
  have h := f_ninL (a := a) [b, c]
  simp only [List.mem_cons, List.not_mem_nil, or_false] at h
  exact h
theorem f_in3 {a b c d : Int} : fIn (.int a) (.tuple [.int b, .int c, .int d]) = some (.bool (decide (a = b ∨ a = c ∨ a = d))) := by
  have h := f_inT (a := a) [b, c, d]
  simp only [List.mem_cons, List.not_mem_nil, or_false] at h
  exact h
theorem f_nin3 {a b c d : Int} : fNin (.int a) (.tuple [.int b, .int c, .int d]) = some (.bool (!decide (a = b ∨ a = c ∨ a = d))) := by
  have h := f_ninT (a := a) [b, c, d]
  simp only [List.mem_cons, List.not_mem_nil, or_false] at h
  exact h
theorem f_in3L {a b c d : Int} : fIn (.int a) (.list [.int b, .int c, .int d]) = some (.bool (decide (a = b ∨ a = c ∨ a = d))) := by
  have h := f_inL (a := a) [b, c, d]
  simp only [List.mem_cons, List.not_mem_nil, or_false] at h
  exact h
theorem f_nin3L {a b c d : Int} : fNin (.int a) (.list [.int b, .int c, .int d]) = some (.bool (!decide (a = b ∨ a = c ∨ a = d))) := by
  have h := f_ninL (a := a) [b, c, d]
  simp only [List.mem_cons, List.not_mem_nil, or_false] at h
  exact h
theorem f_in4 {a b c d e : Int} : fIn (.int a) (.tuple [.int b, .int c, .int d, .int e]) = some (.bool (decide (a = b ∨ a = c ∨ a = d ∨ a = e))) := by
  have h := f_inT (a := a) [b, c, d, e]
  simp only [List.mem_cons, List.not_mem_nil, or_false] at h
  exact h
theorem f_nin4 {a b c d e : Int} : fNin (.int a) (.tuple [.int b, .int c, .int d, .int e]) = some (.bool (!decide (a = b ∨ a = c ∨ a = d ∨ a = e))) := by
  have h := f_ninT (a := a) [b, c, d, e]
  simp only [List.mem_cons, List.not_mem_nil, or_false] at h
  exact h
theorem f_in4L {a b c d e : Int} : fIn (.int a) (.list [.int b, .int c, .int d, .int e]) = some (.bool (decide (a = b ∨ a = c ∨ a = d ∨ a = e))) := by
  have h := f_inL (a := a) [b, c, d, e]
  simp only [List.mem_cons, List.not_mem_nil, or_false] at h
  exact h
theorem f_nin4L {a b c d e : Int} : fNin (.int a) (.list [.int b, .int c, .int d, .int e]) = some (.bool (!decide (a = b ∨ a = c ∨ a = d ∨ a = e))) := by
  have h := f_ninL (a := a) [b, c, d, e]
  simp only [List.mem_cons, List.not_mem_nil, or_false] at h
  exact h
/-- a number from lo to hi -/
def isNum (lo hi : Int) : D → Bool
  | .int i => decide (lo ≤ i) && decide (i ≤ hi)
  | _ => false
theorem isNum_i {lo hi i : Int} : isNum lo hi (.int i) = (decide (lo ≤ i) && decide (i ≤ hi)) := rfl
theorem isNum_n {lo hi : Int} : isNum lo hi .none = false := rfl
theorem isNum_b {lo hi : Int} {b : Bool} : isNum lo hi (.bool b) = false := rfl
theorem isNum_s {lo hi : Int} {x : Str} : isNum lo hi (.str x) = false := rfl
theorem isNum_l {lo hi : Int} {ds : List D} : isNum lo hi (.list ds) = false := rfl
theorem isNum_t {lo hi : Int} {ds : List D} : isNum lo hi (.tuple ds) = false := rfl
theorem isNum_d {lo hi : Int} {es : List (D × D)} : isNum lo hi (.dict es) = false := rfl
theorem iteB_and {a b : Bool} {P Q : Prop} : IteB (a && b) P Q ↔ IteB a (IteB b P Q) Q := by cases a <;> cases b <;> simp [iteB_t, iteB_f]
theorem iteB_or {a b : Bool} {P Q : Prop} : IteB (a || b) P Q ↔ IteB a P (IteB b P Q) := by cases a <;> cases b <;> simp [iteB_t, iteB_f]
theorem csts_take (ds : List D) (n : Nat) : csts (ds.take n) ≤ csts ds := cst_sub (List.take_sublist n ds)
theorem csts_drop (ds : List D) (n : Nat) : csts (ds.drop n) ≤ csts ds := cst_sub (List.drop_sublist n ds)
theorem csts_td (ds : List D) (i j : Nat) (h : i ≤ j) : csts (ds.take i) + csts (ds.drop j) ≤ csts ds := by
  have h1 : csts (ds.drop j) ≤ csts (ds.drop i) := cst_sub (by rw [show j = i + (j - i) by omega, ← List.drop_drop]; exact List.drop_sublist _ _)
  have h2 := csts_app (ds.take i) (ds.drop i)
  rw [List.take_append_drop] at h2
  omega
theorem deps_take (ds : List D) (n : Nat) : PyData.depthAll (ds.take n) ≤ PyData.depthAll ds := deps_sub fun _ h => List.mem_of_mem_take h
theorem deps_drop (ds : List D) (n : Nat) : PyData.depthAll (ds.drop n) ≤ PyData.depthAll ds := deps_sub fun _ h => List.mem_of_mem_drop h
theorem deps_rev (ds : List D) : PyData.depthAll ds.reverse = PyData.depthAll ds := Nat.le_antisymm (deps_sub fun _ h => List.mem_reverse.mp h) (deps_sub fun _ h => List.mem_reverse.mpr h)
theorem getD_mem {ds : List D} {i : Nat} (h : i < ds.length) : ds[i]? = some (ds.getD i .none) ∧ ds.getD i .none ∈ ds := by
  have : ds[i]? = some (ds.getD i .none) := by rw [List.getD_eq_getElem?_getD, List.getElem?_eq_getElem h]; rfl
  exact ⟨this, List.mem_of_getElem? this⟩
theorem atI_D {ds : List D} {a : Int} (h0 : 0 ≤ a) (h1 : a < ds.length) : atI ds a = some (ds.getD a.toNat .none) := atI_n (k := 0) h0 (getD_mem (by omega)).1
theorem atI_DL {ds : List D} (h1 : 0 < ds.length) : atI ds (-1) = some (ds.getD (ds.length - 1) .none) := by
  unfold atI
  rw [ixN_last h1]
  exact (getD_mem (by omega)).1
theorem mapid (ds : List D) : ds = ds.map fun d => d := (List.map_id' ds).symm
theorem map_stT (l : List (List Int)) (n : Nat) (m : List Int) : (l.map dT).set n (.tuple (m.map .int)) = (l.set n m).map dT := List.map_set.symm
/-- a loop over values of a kind, its word the same at each turn -/
theorem loopQ {π : Type} {τ : D → Sg → Option Sg} {ψ : SS π} {V : List D} {σ : Sg} {p : π} {R : Out π → Prop} (P : D → Prop) (I : Sg → π → Prop) (h0 : I σ p) (hs : ∀ x σ p, P x → I σ p → Op (τ x σ) fun σ1 => Ends ψ σ1 p (LoR I R))
    (hd : ∀ σ p, I σ p → R (.nx σ p)) (hP : ∀ v ∈ V, P v) : LoopR τ ψ V σ p R := by
  have := loopP (τ := τ) (ψ := ψ) (e := fun d : D => d) (xs := V) (σ := σ) (p := p) (R := R) (fun _ σ p => I σ p) h0 (fun pre x post σ p hx hI => hs x σ p (hP x (by rw [hx]; simp)) hI) hd
  rwa [List.map_id'] at this
theorem rep_s {n : Nat} : List.replicate (n + 1) Sl.un = .un :: List.replicate n .un := rfl
theorem rep_0 : List.replicate 0 Sl.un = [] := rfl
theorem all2_right {κ ρ : Type} {P : ρ → Prop} {xs : List κ} {ys : List ρ} (h : All2 (fun _ y => P y) xs ys) : ∀ y ∈ ys, P y := h.right
/-- for k, x in enumerate(..): a prefix invariant -/
theorem loopEn {π : Type} {τ : D → Sg → Option Sg} {ψ : SS π} {ds : List D} {σ : Sg} {p : π} {R : Out π → Prop} (I : List D → Sg → π → Prop) (h0 : I [] σ p)
    (hs : ∀ (pre : List D) (x : D) (post : List D) (σ : Sg) (p : π), ds = pre ++ x :: post → I pre σ p → Op (τ (.tuple [.int (pre.length : Nat), x]) σ) fun σ1 => Ends ψ σ1 p (LoR (I (pre ++ [x])) R))
    (hd : ∀ (σ : Sg) (p : π), I ds σ p → R (.nx σ p)) : LoopR τ ψ (enumL 0 ds) σ p R := by
  have key : ∀ (post pre : List D) (σ : Sg) (p : π), ds = pre ++ post → I pre σ p → ∃ o, sLoop τ ψ (enumL pre.length post) σ p = some o ∧ R o := by
    intro post
    induction post with
    | nil =>
      intro pre σ p hx h
      rw [List.append_nil] at hx
      subst hx
      exact ⟨_, rfl, hd σ p h⟩
    | cons x r ih =>
      intro pre σ p hx h
      obtain ⟨σ1, h1, o, h2, h3⟩ := hs pre x r σ p hx h
      have el : (pre ++ [x]).length = pre.length + 1 := by rw [List.length_append]; rfl
      rw [show enumL pre.length (x :: r) = .tuple [.int (pre.length : Nat), x] :: enumL (pre.length + 1) r from rfl]
      unfold sLoop
      simp only [h1, h2]
      cases o with
      | nx σ2 p2 => have := ih (pre ++ [x]) σ2 p2 (by rw [hx, List.append_assoc]; rfl) h3; rw [el] at this; exact this
      | ct σ2 p2 => have := ih (pre ++ [x]) σ2 p2 (by rw [hx, List.append_assoc]; rfl) h3; rw [el] at this; exact this
      | bk σ2 p2 => exact ⟨_, rfl, h3⟩
      | rt d p2 => exact ⟨_, rfl, h3⟩
  exact key ds [] σ p rfl h0
end FL

namespace FL
open PySem PySem.Spec PyProof.Rows L2
/-! ### equality of plain data (no bools, no dicts) -/
mutual
def plB : D → Bool
  | .none => true
  | .bool _ => false
  | .int _ => true
  | .str x => PyData.canLay0 (.str x)
  | .list ds => plBs ds
  | .tuple ds => plBs ds
  | .dict _ => false
def plBs : List D → Bool
  | [] => true
  | d :: r => plB d && plBs r
end
theorem plBs_iff {ds : List D} : plBs ds = true ↔ ∀ x ∈ ds, plB x = true := by
  induction ds with
  | nil =>
    rw [plBs]
    exact ⟨fun _ x h => (by cases h), fun _ => rfl⟩
  | cons d r ih =>
    rw [plBs, Bool.and_eq_true, ih]
    constructor
    · rintro ⟨h1, h2⟩ x hx
      rcases List.mem_cons.mp hx with rfl | hx
      · exact h1
      · exact h2 x hx
    · exact fun h => ⟨h _ List.mem_cons_self, fun x hx => h x (List.mem_cons_of_mem _ hx)⟩
theorem plB_t (ds : List D) : plB (.tuple ds) = plBs ds := by rw [plB]
theorem plB_l (ds : List D) : plB (.list ds) = plBs ds := by rw [plB]
theorem plB_i (i : Int) : plB (.int i) = true := by rw [plB]
theorem plB_n : plB .none = true := by rw [plB]
theorem plBs_n : plBs [] = true := by rw [plBs]
theorem plBs_c (d : D) (r : List D) : plBs (d :: r) = (plB d && plBs r) := by rw [plBs]
theorem plBs_a (a b : List D) : plBs (a ++ b) = (plBs a && plBs b) := by
  induction a with
  | nil => rw [plBs_n]; rfl
  | cons x r ih => rw [List.cons_append, plBs_c, plBs_c, ih, Bool.and_assoc]
theorem plBs_map {κ : Type} {f : κ → D} {l : List κ} (h : ∀ x ∈ l, plB (f x) = true) : plBs (l.map f) = true := by
  rw [plBs_iff]
  intro x hx
  obtain ⟨y, hy, rfl⟩ := List.mem_map.mp hx
  exact h y hy
mutual
theorem plB_lay : ∀ d : D, plB d = true → d.canLay0 = true
  | .none, _ => by rw [PyData.canLay0]
  | .bool _, h => by rw [plB] at h; cases h
  | .int _, _ => by rw [PyData.canLay0]
  | .str x, h => by rw [plB] at h; exact h
  | .list ds, h => by rw [plB] at h; rw [PyData.canLay0]; exact plBs_lay ds h
  | .tuple ds, h => by rw [plB] at h; rw [PyData.canLay0]; exact plBs_lay ds h
  | .dict _, h => by rw [plB] at h; cases h
theorem plBs_lay : ∀ ds : List D, plBs ds = true → PyData.canLayAll0 ds = true
  | [], _ => by rw [PyData.canLayAll0]
  | d :: r, h => by
    rw [plBs, Bool.and_eq_true] at h
    rw [PyData.canLayAll0, plB_lay d h.1, plBs_lay r h.2]; rfl
end
mutual
theorem eqv_pl : ∀ d e : D, plB d = true → plB e = true → (PyData.eqv d e = true ↔ d = e)
  | .none, e, _, h2 => by
    cases e with
    | none => exact ⟨fun _ => rfl, fun _ => rfl⟩
    | _ => exact ⟨fun h => by (rw [PyData.eqv] at h; cases h), fun h => by cases h⟩
  | .bool _, _, h1, _ => by rw [plB] at h1; cases h1
  | .int i, e, _, h2 => by
    cases e with
    | int j => rw [PyData.eqv, beq_iff_eq]; exact ⟨fun h => by rw [h], fun h => by cases h; rfl⟩
    | bool _ => rw [plB] at h2; cases h2
    | _ => exact ⟨fun h => by (rw [PyData.eqv] at h; cases h), fun h => by cases h⟩
  | .str x, e, _, h2 => by
    cases e with
    | str y => rw [PyData.eqv, beq_iff_eq]; exact ⟨fun h => by rw [h], fun h => by cases h; rfl⟩
    | _ => exact ⟨fun h => by (rw [PyData.eqv] at h; cases h), fun h => by cases h⟩
  | .list xs, e, h1, h2 => by
    cases e with
    | list ys =>
      rw [plB] at h1 h2
      rw [PyData.eqv, eqvs_pl xs ys h1 h2]; exact ⟨fun h => by rw [h], fun h => by cases h; rfl⟩
    | _ => exact ⟨fun h => by (rw [PyData.eqv] at h; cases h), fun h => by cases h⟩
  | .tuple xs, e, h1, h2 => by
    cases e with
    | tuple ys =>
      rw [plB] at h1 h2
      rw [PyData.eqv, eqvs_pl xs ys h1 h2]; exact ⟨fun h => by rw [h], fun h => by cases h; rfl⟩
    | _ => exact ⟨fun h => by (rw [PyData.eqv] at h; cases h), fun h => by cases h⟩
  | .dict _, _, h1, _ => by rw [plB] at h1; cases h1
theorem eqvs_pl : ∀ d e : List D, plBs d = true → plBs e = true → (PyData.eqvAll d e = true ↔ d = e)
  | [], [], _, _ => ⟨fun _ => rfl, fun _ => by rw [PyData.eqvAll]⟩
  | [], _ :: _, _, _ => ⟨fun h => by (rw [PyData.eqvAll] at h; cases h), fun h => by cases h⟩
  | _ :: _, [], _, _ => ⟨fun h => by (rw [PyData.eqvAll] at h; cases h), fun h => by cases h⟩
  | d :: r, e :: t, h1, h2 => by
    rw [plBs, Bool.and_eq_true] at h1 h2
    rw [PyData.eqvAll, Bool.and_eq_true, eqv_pl d e h1.1 h2.1, eqvs_pl r t h1.2 h2.2]
    exact ⟨fun h => by rw [h.1, h.2], fun h => by cases h; exact ⟨rfl, rfl⟩⟩
end
theorem shp_of {d : D} (h : plB d = true) (k : d.depth ≤ 64) : SeqAt.shaped d = true := by
  unfold SeqAt.shaped
  rw [plB_lay d h, decide_eq_true k]; rfl
theorem eqD_pl {d e : D} {b : Bool} (h1 : plB d = true) (h2 : plB e = true) (k1 : d.depth ≤ 64) (k2 : e.depth ≤ 64) (hb : b = true ↔ d = e) : eqD d e = some b := by
  have key : (if SeqAt.shaped d && SeqAt.shaped e then some (PyData.eqv d e) else eqE d e) = some b := by
    rw [shp_of h1 k1, shp_of h2 k2]
    show some (PyData.eqv d e) = some b
    congr 1
    rw [Bool.eq_iff_iff, eqv_pl d e h1 h2, hb]
  unfold eqD
  split
  · rename_i x y
    congr 1
    rw [Bool.eq_iff_iff, hb, decide_eq_true_eq]
    exact ⟨fun h => by rw [h], fun h => by cases h; rfl⟩
  · exact key
theorem f_eqPl {d e : D} {b : Bool} (h1 : plB d = true) (h2 : plB e = true) (k1 : d.depth ≤ 64) (k2 : e.depth ≤ 64) (hb : b = true ↔ d = e) : fEq d e = some (.bool b) := by
  unfold fEq; rw [eqD_pl h1 h2 k1 k2 hb]; rfl
theorem f_nePl {d e : D} {b : Bool} (h1 : plB d = true) (h2 : plB e = true) (k1 : d.depth ≤ 64) (k2 : e.depth ≤ 64) (hb : b = true ↔ d = e) : fNe d e = some (.bool (!b)) := by
  unfold fNe; rw [eqD_pl h1 h2 k1 k2 hb]; rfl
theorem f_eqSf {d : D} (h1 : plB d = true) (k1 : d.depth ≤ 64) : fEq d d = some (.bool true) := f_eqPl h1 h1 k1 k1 (by simp)
theorem f_neSf {d : D} (h1 : plB d = true) (k1 : d.depth ≤ 64) : fNe d d = some (.bool false) := f_nePl h1 h1 k1 k1 (b := true) (by simp)
theorem map_inj_iff {κ : Type} {f : κ → D} (hf : ∀ x y, f x = f y → x = y) : ∀ xs ys : List κ, xs.map f = ys.map f ↔ xs = ys
  | [], [] => by simp
  | [], _ :: _ => by simp
  | _ :: _, [] => by simp
  | x :: r, y :: t => by
    rw [List.map_cons, List.map_cons, List.cons.injEq, List.cons.injEq, map_inj_iff hf r t]
    exact ⟨fun h => ⟨hf _ _ h.1, h.2⟩, fun h => ⟨by rw [h.1], h.2⟩⟩
theorem dT_inj (x y : List Int) (h : dT x = dT y) : x = y := by
  unfold dT at h
  have h := PyData.tuple.inj h
  exact (map_inj_iff (fun a b e => PyData.int.inj e) x y).mp h
theorem plB_dT (x : List Int) : plB (dT x) = true := by
  unfold dT
  rw [plB_t]
  exact plBs_map fun y _ => plB_i y
theorem atI_mem {κ : Type} (f : κ → D) {l : List κ} {k : Int} (h0 : 0 ≤ k) (h1 : k < l.length) : ∃ x ∈ l, l[k.toNat]? = some x ∧ atI (l.map f) k = some (f x) := by
  have h2 : k.toNat < l.length := by omega
  refine ⟨l[k.toNat], List.getElem_mem h2, List.getElem?_eq_getElem h2, ?_⟩
  exact atI_n (k := 0) h0 (by rw [List.getElem?_map, List.getElem?_eq_getElem h2]; rfl)
/-- a comprehension over values of any kind, what it gives is known by its kind alone -/
theorem compQ {π : Type} {τ : D → Sg → Option Sg} {α : SE π} {own : List Nat} {xs : List D} {σ : Sg} {p : π} {RL : List D → π → Prop} (P Q : D → Prop) (hP : ∀ x ∈ xs, P x)
    (H : ∀ x, P x → Op (τ x (wipeS σ own)) fun s => EvE α s p fun d p2 => Q d ∧ p2 = p)
    (k : ∀ ys : List D, ys.length = xs.length → (∀ y ∈ ys, Q y) → RL ys p) (hl : xs.length ≤ 16777216 := by first | assumption | omega | simp) (hp : plainAt σ own = true := by rfl) : CompR own τ xYes α xs σ p RL := by
  refine ⟨⟨hl, hp⟩, ?_⟩
  have key : ∀ xs : List D, (∀ x ∈ xs, P x) → ∃ ys, lcGo own τ xYes α xs σ p = some (ys, p) ∧ ys.length = xs.length ∧ ∀ y ∈ ys, Q y := by
    intro xs
    induction xs with
    | nil => exact fun _ => ⟨[], rfl, rfl, fun _ h => by cases h⟩
    | cons x r ih =>
      intro hP
      obtain ⟨s, h1, d, p2, h2, h3, rfl⟩ := H x (hP x List.mem_cons_self)
      obtain ⟨ys, h4, h5, h6⟩ := ih fun y hy => hP y (List.mem_cons_of_mem _ hy)
      refine ⟨d :: ys, ?_, by rw [List.length_cons, List.length_cons, h5], fun y hy => ?_⟩
      · unfold lcGo
        simp only [h1, xYes, Option.bind_some, if_true, h2, h4, Option.map_some]
      · rcases List.mem_cons.mp hy with rfl | hy
        · exact h3
        · exact h6 y hy
  obtain ⟨ys, h1, h2, h3⟩ := key xs hP
  exact ⟨ys, p, h1, k ys h2 h3⟩
theorem cut_m {ds : List D} : cutD ds none (some (-1)) = ds.take (ds.length - 1) := by
  unfold cutD
  have e : HT.sIx ds.length ds.length (some (-1)) = ((-1 : Int) + (ds.length : Int)).toNat := by unfold HT.sIx; exact if_pos (by decide)
  have e2 : HT.sIx ds.length 0 none = 0 := rfl
  rw [e, e2, List.drop_zero, Nat.sub_zero]
  congr 1
  omega
end FL

namespace FL
open PySem PySem.Spec PyProof.Rows L2
/-! ### a def that calls itself: no promise at all where nothing is left to go down -/
section
variable {P : Program} {w : World} {K : PySem.W.Frag} {mg : Str → Option Value} {base : Heap} {k n : Nat} {f : Addr} {fd : FuncData} {ps : List Str}
theorem ok_0Z {π : Type} {Z : PotK π} : FnOk P w K mg base CX0 k f fd ps (spZ K Z n (fun _ _ => none)) :=
  ⟨fun vs H Q E ⟨pa, ga, B, ws, ds, p, z, p', h0, h1, h2, h3, h4, h5, h6, _⟩ => (by cases h6), fun A outer s H args us vs Q E hr he hb hv ⟨pa, ga, B, ws, ds, p, z, p', h0, h1, h2, h3, h4, h5, h6, _⟩ => (by cases h6)⟩
theorem ok_0P : FnOk P w K mg base CX0 k f fd ps (spP K n (fun _ => none)) :=
  ⟨fun vs H Q E ⟨B, ds, z, h1, h2, h3, h4, _⟩ => (by cases h4), fun A outer s H args us vs Q E hr he hb hv ⟨B, ds, z, h1, h2, h3, h4, _⟩ => (by cases h4)⟩
end
section
variable {π : Type} {Z : PotK π} {S : Sta} {N : List Str} {sc : Scope} {pos q1 q2 : Pos}
/-! ### {'a': 0} -/
theorem fe_dict1 {x : Str} {i : Int} {j1 j2} : FE S N sc Z (.Dict [some (.Constant (.str x) j1 q1)] [.Constant (.int i) j2 q2] pos) (xC (.dict [(.str x, .int i)])) := by
  refine ⟨_, fun _ _ => pe_disp (pps_cons pe_str pe_int pps_nil) rfl rfl (fun z => by cases z) (show 1 ≤ 15 by decide), fun F B vs H σ p d p' Q r e k => ?_⟩
  cases e
  intro q hq
  refine ⟨upd_same, [(.inr x, .int i)], rfl, (show 1 ≤ 15 by decide), ?_⟩
  have gr := Gr.new r.sub (o := HO.dK (mergeK [] [(.inr x, .int i)])) hq
  have e2 : upd (upd H q (.dK [])) q (.dK (mergeK [] [(.inr x, .int i)])) = upd H q (.dK (mergeK [] [(.inr x, .int i)])) := by
    funext b
    by_cases z : b = q
    · subst z; rw [upd_same, upd_same]
    · rw [upd_ne z, upd_ne z, upd_ne z]
  rw [e2]
  exact k _ _ _ gr.b (r.grow gr) (.dct upd_same (.cons (.int i) .nil))
end
end FL

namespace FL
open PySem PySem.Spec PyProof.Rows L2
/-! ### a, b, c = .., one of them a new list -/
section
variable {π : Type} {Z : PotK π} {S : Sta} {N : List Str} {sc : Scope} {a b c : Expr} {pos : Pos} {α β γ : SE π} {ω : SL π}
theorem par3_at {X : Cx} {x y z : Str} {px py pz pt pt2 : Pos} {kt k2} {i j l : Nat} {t : TA} (hX : Fam1 S N sc X) (ha : PA X [a, b, c] t) (hij : i ≠ j) (hil : i ≠ l) (hjl : j ≠ l) (hi : N[i]? = some x) (hj : N[j]? = some y) (hl : N[l]? = some z)
    (hx : sc.names.lookup x = some .local) (hy : sc.names.lookup y = some .local) (hz : sc.names.lookup z = some .local)
    (hw : swappedStores [.Tuple [.Name x px, .Name y py, .Name z pz] kt pt] (.Tuple [a, b, c] k2 pt2) X.env = pure (some [x, y, z])) (hs : swapsWithSole [.Tuple [.Name x px, .Name y py, .Name z pz] kt pt] (.Tuple [a, b, c] k2 pt2) pos.line X.env = pure false) :
    PS X (.Assign [.Tuple [.Name x px, .Name y py, .Name z pz] kt pt] (.Tuple [a, b, c] k2 pt2) pos) (tPar3 i j l t) := by
  obtain ⟨⟨nd, s0, H0, env, outer, stack, ex, fn, pn, hs', e⟩, hf⟩ := hX
  subst e
  exact ps_par3 rfl nd hi hj hl hij hil hjl (by show env.scope.names.lookup x = _; rw [hs']; exact hx) (by show env.scope.names.lookup y = _; rw [hs']; exact hy) (by show env.scope.names.lookup z = _; rw [hs']; exact hz) ha hw hs
def sParLEE (i j l : Nat) (ω : SL π) (β γ : SE π) : SS π := fun σ p => (ω σ p).bind fun x => (β σ x.2).bind fun y => (γ σ y.2).map fun z => .nx (((σ.set i (.own x.1)).set j (.val y.1)).set l (.val z.1)) z.2
def sParELE (i j l : Nat) (α : SE π) (ω : SL π) (γ : SE π) : SS π := fun σ p => (α σ p).bind fun x => (ω σ x.2).bind fun y => (γ σ y.2).map fun z => .nx (((σ.set j (.own y.1)).set i (.val x.1)).set l (.val z.1)) z.2
def sParEEL (i j l : Nat) (α β : SE π) (ω : SL π) : SS π := fun σ p => (α σ p).bind fun x => (β σ x.2).bind fun y => (ω σ y.2).map fun z => .nx (((σ.set l (.own z.1)).set i (.val x.1)).set j (.val y.1)) z.2
variable {x y z : Str} {px py pz pt pt2 : Pos} {kt k2 : Nat}
theorem fs_parLEE (i j l : Nat) (h1 : FL S N sc Z a ω) (h2 : FE S N sc Z b β) (h3 : FE S N sc Z c γ) (hs1 : ∀ X : Cx, starEach [a, b, c] X.env = (false, eval a X.env) :: starEach [b, c] X.env := by intro _; rfl) (hs2 : ∀ X : Cx, starEach [b, c] X.env = (false, eval b X.env) :: starEach [c] X.env := by intro _; rfl)
    (hs3 : ∀ X : Cx, starEach [c] X.env = (false, eval c X.env) :: starEach [] X.env := by intro _; rfl)
    (hij : i ≠ j := by decide) (hil : i ≠ l := by decide) (hjl : j ≠ l := by decide) (hi : N[i]? = some x := by rfl) (hj : N[j]? = some y := by rfl) (hl : N[l]? = some z := by rfl) (hx : sc.names.lookup x = some .local := by rfl) (hy : sc.names.lookup y = some .local := by rfl) (hz : sc.names.lookup z = some .local := by rfl)
    (hw : InSc sc fun env => swappedStores [.Tuple [.Name x px, .Name y py, .Name z pz] kt pt] (.Tuple [a, b, c] k2 pt2) env = pure (some [x, y, z]) := by intro env h; cases env; cases h; rfl)
    (hs : InSc sc fun env => swapsWithSole [.Tuple [.Name x px, .Name y py, .Name z pz] kt pt] (.Tuple [a, b, c] k2 pt2) pos.line env = pure false := by intro env h; cases env; cases h; rfl) :
    FS S N sc Z (.Assign [.Tuple [.Name x px, .Name y py, .Name z pz] kt pt] (.Tuple [a, b, c] k2 pt2) pos) (sParLEE i j l ω β γ) := by
  obtain ⟨t, a1, a2⟩ := h1.ex
  obtain ⟨u, b1, b2⟩ := h2.ex
  obtain ⟨w, c1, c2⟩ := h3.ex
  refine ⟨_, fun X hX => par3_at hX (pa_cons (a1 X hX.1) (pa_cons (b1 X hX.1) (pa_cons (c1 X hX.1) pa_nil (hs3 X)) (hs2 X)) (hs1 X)) hij hil hjl hi hj hl hx hy hz (hw.at hX.1) (hs.at hX.1), fun F B vs H σ p o E r e k => ?_⟩
  obtain ⟨⟨x, p1⟩, e1, e⟩ := bnd e
  obtain ⟨⟨y, p2⟩, e2, e⟩ := bnd e
  obtain ⟨⟨z, p3⟩, e3, e⟩ := mpd e
  cases e
  refine a2 F B vs H σ p x p1 _ r e1 fun l' H1 B1 s1 n => ?_
  obtain ⟨xs, g1, g2⟩ := n.is
  refine b2 (F.with l' xs) B1 vs H1 σ p1 y p2 _ (n.go g1) e2 fun v H2 B2 s2 r2 d2 => ?_
  refine c2 (F.with l' xs) B2 vs H2 σ p2 z p3 _ r2 e3 fun v3 H3 B3 s3 r3 d3 => ?_
  have n2 := NewL.come r3 n.n0 n.nN n.rep.potN (DqA_up (s2.trans s3) _ _ g2)
  obtain ⟨zs, f1, f2⟩ := n2.is
  exact ⟨_, _, _, rfl, k _ H3 B3 ((s1.trans s2).trans s3) (((n2.rep.setL i f1 f2 n2.nB n2.n0 n2.nN fun j es _ q => n2.nS j es q).set j (Dq_up s3 _ _ d2)).set l d3)⟩
theorem fs_parELE (i j l : Nat) (h1 : FE S N sc Z a α) (h2 : FL S N sc Z b ω) (h3 : FE S N sc Z c γ) (hs1 : ∀ X : Cx, starEach [a, b, c] X.env = (false, eval a X.env) :: starEach [b, c] X.env := by intro _; rfl) (hs2 : ∀ X : Cx, starEach [b, c] X.env = (false, eval b X.env) :: starEach [c] X.env := by intro _; rfl)
    (hs3 : ∀ X : Cx, starEach [c] X.env = (false, eval c X.env) :: starEach [] X.env := by intro _; rfl)
    (hij : i ≠ j := by decide) (hil : i ≠ l := by decide) (hjl : j ≠ l := by decide) (hi : N[i]? = some x := by rfl) (hj : N[j]? = some y := by rfl) (hl : N[l]? = some z := by rfl) (hx : sc.names.lookup x = some .local := by rfl) (hy : sc.names.lookup y = some .local := by rfl) (hz : sc.names.lookup z = some .local := by rfl)
    (hw : InSc sc fun env => swappedStores [.Tuple [.Name x px, .Name y py, .Name z pz] kt pt] (.Tuple [a, b, c] k2 pt2) env = pure (some [x, y, z]) := by intro env h; cases env; cases h; rfl)
    (hs : InSc sc fun env => swapsWithSole [.Tuple [.Name x px, .Name y py, .Name z pz] kt pt] (.Tuple [a, b, c] k2 pt2) pos.line env = pure false := by intro env h; cases env; cases h; rfl) :
    FS S N sc Z (.Assign [.Tuple [.Name x px, .Name y py, .Name z pz] kt pt] (.Tuple [a, b, c] k2 pt2) pos) (sParELE i j l α ω γ) := by
  obtain ⟨t, a1, a2⟩ := h1.ex
  obtain ⟨u, b1, b2⟩ := h2.ex
  obtain ⟨w, c1, c2⟩ := h3.ex
  refine ⟨_, fun X hX => par3_at hX (pa_cons (a1 X hX.1) (pa_cons (b1 X hX.1) (pa_cons (c1 X hX.1) pa_nil (hs3 X)) (hs2 X)) (hs1 X)) hij hil hjl hi hj hl hx hy hz (hw.at hX.1) (hs.at hX.1), fun F B vs H σ p o E r e k => ?_⟩
  obtain ⟨⟨x, p1⟩, e1, e⟩ := bnd e
  obtain ⟨⟨y, p2⟩, e2, e⟩ := bnd e
  obtain ⟨⟨z, p3⟩, e3, e⟩ := mpd e
  cases e
  refine a2 F B vs H σ p x p1 _ r e1 fun v H1 B1 s1 r1 d1 => ?_
  refine b2 F B1 vs H1 σ p1 y p2 _ r1 e2 fun l' H2 B2 s2 n => ?_
  obtain ⟨xs, g1, g2⟩ := n.is
  refine c2 (F.with l' xs) B2 vs H2 σ p2 z p3 _ (n.go g1) e3 fun v3 H3 B3 s3 r3 d3 => ?_
  have n2 := NewL.come r3 n.n0 n.nN n.rep.potN (DqA_up s3 _ _ g2)
  obtain ⟨zs, f1, f2⟩ := n2.is
  refine ⟨_, _, _, rfl, ?_⟩
  rw [List.set_comm _ _ hij]
  exact k _ H3 B3 ((s1.trans s2).trans s3) (((n2.rep.setL j f1 f2 n2.nB n2.n0 n2.nN fun j es _ q => n2.nS j es q).set i (Dq_up (s2.trans s3) _ _ d1)).set l d3)
theorem fs_parEEL (i j l : Nat) (h1 : FE S N sc Z a α) (h2 : FE S N sc Z b β) (h3 : FL S N sc Z c ω) (hs1 : ∀ X : Cx, starEach [a, b, c] X.env = (false, eval a X.env) :: starEach [b, c] X.env := by intro _; rfl) (hs2 : ∀ X : Cx, starEach [b, c] X.env = (false, eval b X.env) :: starEach [c] X.env := by intro _; rfl)
    (hs3 : ∀ X : Cx, starEach [c] X.env = (false, eval c X.env) :: starEach [] X.env := by intro _; rfl)
    (hij : i ≠ j := by decide) (hil : i ≠ l := by decide) (hjl : j ≠ l := by decide) (hi : N[i]? = some x := by rfl) (hj : N[j]? = some y := by rfl) (hl : N[l]? = some z := by rfl) (hx : sc.names.lookup x = some .local := by rfl) (hy : sc.names.lookup y = some .local := by rfl) (hz : sc.names.lookup z = some .local := by rfl)
    (hw : InSc sc fun env => swappedStores [.Tuple [.Name x px, .Name y py, .Name z pz] kt pt] (.Tuple [a, b, c] k2 pt2) env = pure (some [x, y, z]) := by intro env h; cases env; cases h; rfl)
    (hs : InSc sc fun env => swapsWithSole [.Tuple [.Name x px, .Name y py, .Name z pz] kt pt] (.Tuple [a, b, c] k2 pt2) pos.line env = pure false := by intro env h; cases env; cases h; rfl) :
    FS S N sc Z (.Assign [.Tuple [.Name x px, .Name y py, .Name z pz] kt pt] (.Tuple [a, b, c] k2 pt2) pos) (sParEEL i j l α β ω) := by
  obtain ⟨t, a1, a2⟩ := h1.ex
  obtain ⟨u, b1, b2⟩ := h2.ex
  obtain ⟨w, c1, c2⟩ := h3.ex
  refine ⟨_, fun X hX => par3_at hX (pa_cons (a1 X hX.1) (pa_cons (b1 X hX.1) (pa_cons (c1 X hX.1) pa_nil (hs3 X)) (hs2 X)) (hs1 X)) hij hil hjl hi hj hl hx hy hz (hw.at hX.1) (hs.at hX.1), fun F B vs H σ p o E r e k => ?_⟩
  obtain ⟨⟨x, p1⟩, e1, e⟩ := bnd e
  obtain ⟨⟨y, p2⟩, e2, e⟩ := bnd e
  obtain ⟨⟨z, p3⟩, e3, e⟩ := mpd e
  cases e
  refine a2 F B vs H σ p x p1 _ r e1 fun v H1 B1 s1 r1 d1 => ?_
  refine b2 F B1 vs H1 σ p1 y p2 _ r1 e2 fun v2 H2 B2 s2 r2 d2 => ?_
  refine c2 F B2 vs H2 σ p2 z p3 _ r2 e3 fun l' H3 B3 s3 n => ?_
  obtain ⟨xs, g1, g2⟩ := n.is
  refine ⟨_, _, _, rfl, ?_⟩
  have e4 : ∀ (u v w : Option V), ((vs.set i u).set j v).set l w = ((vs.set l w).set i u).set j v := fun u v w => by
    rw [List.set_comm _ _ hjl, List.set_comm _ _ hil]
  rw [e4]
  exact k _ H3 B3 ((s1.trans s2).trans s3) (((n.rep.setL l g1 g2 n.nB n.n0 n.nN fun j es _ q => n.nS j es q).set i (Dq_up (s2.trans s3) _ _ d1)).set j (Dq_up s3 _ _ d2))
end
section
variable {π : Type} {σ : Sg} {p : π} {α β γ : SE π} {ω : SL π} {R : Out π → Prop} {i j l : Nat}
theorem w_parLEE : Ends (sParLEE i j l ω β γ) σ p R ↔ EvE ω σ p fun d p1 => EvE β σ p1 fun e p2 => EvE γ σ p2 fun z p3 => R (.nx (((σ.set i (.own d)).set j (.val e)).set l (.val z)) p3) := by
  unfold Ends sParLEE EvE
  rw [ends_bind, ev_pair]
  refine exists_congr fun d => exists_congr fun q => and_congr_right fun _ => ?_
  rw [ends_bind, ev_pair]
  refine exists_congr fun d => exists_congr fun q => and_congr_right fun _ => ?_
  rw [ends_map, ev_pair]
theorem w_parELE : Ends (sParELE i j l α ω γ) σ p R ↔ EvE α σ p fun d p1 => EvE ω σ p1 fun e p2 => EvE γ σ p2 fun z p3 => R (.nx (((σ.set j (.own e)).set i (.val d)).set l (.val z)) p3) := by
  unfold Ends sParELE EvE
  rw [ends_bind, ev_pair]
  refine exists_congr fun d => exists_congr fun q => and_congr_right fun _ => ?_
  rw [ends_bind, ev_pair]
  refine exists_congr fun d => exists_congr fun q => and_congr_right fun _ => ?_
  rw [ends_map, ev_pair]
theorem w_parEEL : Ends (sParEEL i j l α β ω) σ p R ↔ EvE α σ p fun d p1 => EvE β σ p1 fun e p2 => EvE ω σ p2 fun z p3 => R (.nx (((σ.set l (.own z)).set i (.val d)).set j (.val e)) p3) := by
  unfold Ends sParEEL EvE
  rw [ends_bind, ev_pair]
  refine exists_congr fun d => exists_congr fun q => and_congr_right fun _ => ?_
  rw [ends_bind, ev_pair]
  refine exists_congr fun d => exists_congr fun q => and_congr_right fun _ => ?_
  rw [ends_map, ev_pair]
end
end FL

namespace FL
open PySem PySem.Spec PyProof.Rows L2
/-! ### a.index(b), a a list -/
def fIndex (d e : D) : Option D := match d with
  | .list ds => if PyData.hasDictAll ds = false ∧ PyData.hasDict e = false ∧ SeqAt.shaped (.list ds) = true ∧ SeqAt.shaped e = true then (ds.findIdx? fun z => PyData.eqv z e).map fun j => .int (j : Nat) else none
  | _ => none
section
variable {π : Type} {Z : PotK π} {S : Sta} {N : List Str} {sc : Scope} {a b : Expr} {q2 q3 : Pos} {α β : SE π}
theorem fe_index (hu : S.A.units + 70 < cLine) (ha : FE S N sc Z a α) (hb : FA S N sc Z [b] (aCons β aNil))
    (hp : ∀ (X : Cx) (to : TE) (t : TA), Fam S N sc X → MtR X "list.index" (rIndexD X.K) → PE X a to → PA X [b] t → PE X (.Call (.Attribute a "index" q2) [b] [] q3) (tBM X.K "list" (rIndexD X.K) to t) := by
      intro X to t hX hm ho ht
      exact pe_bm PySem.F.plainAttrs_list PySem.F.slot_list_index PySem.F.type_list_index hm ho ht) :
    FE S N sc Z (.Call (.Attribute a "index" q2) [b] [] q3) (xBin fIndex α β) := by
  obtain ⟨ta, a1, a2⟩ := ha.ex
  obtain ⟨tb, b1, b2⟩ := hb.ex
  refine ⟨tBM S.K "list" (rIndexD S.K) ta tb, fun X hX => ?_, fun F B vs H σ p d p' Q r e k => ?_⟩
  · rw [← K_fam hX]
    exact hp X ta tb hX (mt_indexD (by rw [A_fam hX]; omega)) (a1 X hX) (b1 X hX)
  · obtain ⟨⟨x, p1⟩, e1, e⟩ := bnd e
    obtain ⟨⟨y, p2⟩, e2, e⟩ := bnd e
    obtain ⟨z, e3, e⟩ := mpd e
    cases e
    refine a2 F B vs H σ p x p1 _ r e1 fun v H1 B1 s1 r1 d1 => ?_
    cases x with
    | list ds =>
      cases d1 with
      | lst h1 h2 =>
        refine ⟨.inl ⟨rfl, _, SqL.of (r1.sub _ _ h1)⟩, ?_⟩
        have e4 : (aCons β aNil) σ p1 = some ([y], p2) := by
          show (β σ p1).bind _ = _
          rw [e2]; rfl
        refine b2 F B1 vs H1 σ p1 [y] p2 _ r1 e4 fun ys H2 B2 s2 r2 d2 => ?_
        cases d2 with
        | cons d3 d4 =>
        cases d4
        unfold fIndex at e3
        simp only at e3
        split at e3
        case isFalse => cases e3
        rename_i hc
        obtain ⟨c1, c2, c3, c4⟩ := hc
        obtain ⟨j, e5, e6⟩ := mpd e3
        cases e6
        obtain ⟨g1, g2, g3⟩ := List.findIdx?_eq_some_iff_getElem.mp e5
        refine ⟨_, _, y, ds, j, ds[j], rfl, rfl, ?_, Dq.p y _ c2 (Dq_up r2.sub _ _ d3), c3, c4, List.getElem?_eq_getElem g1, g2, fun m z' hm hz => ?_, k _ H2 B2 (s1.trans s2) r2 (.int _)⟩
        · refine Dq.p (.list ds) _ (by rw [PyData.hasDict]; exact c1) (Dq_up (s2.trans r2.sub) _ _ (.lst h1 h2))
        · obtain ⟨_, rfl⟩ := List.getElem?_eq_some_iff.mp hz
          simpa using g3 m hm
    | _ => cases e3
end
theorem f_index {ns : List Int} {v : Int} (h : v ∈ ns) : ∃ j : Nat, j < ns.length ∧ fIndex (.list (ns.map .int)) (.int v) = some (.int j) := by
  unfold fIndex
  have hd : ∀ l : List Int, PyData.hasDictAll (l.map .int) = false := fun l => by
    induction l with
    | nil => rfl
    | cons x r ih => rw [List.map_cons, PyData.hasDictAll, ih]; rfl
  simp only
  rw [if_pos ⟨hd ns, rfl, shaped_ints ns, rfl⟩]
  cases e : (ns.map PyData.int).findIdx? fun z => PyData.eqv z (.int v) with
  | none =>
    exfalso
    rw [List.findIdx?_eq_none_iff] at e
    have := e (.int v) (List.mem_map_of_mem h)
    simp [PyData.eqv] at this
  | some j =>
    obtain ⟨g1, _, _⟩ := List.findIdx?_eq_some_iff_getElem.mp e
    rw [List.length_map] at g1
    exact ⟨j, g1, rfl⟩
end FL

namespace FL
open PySem PySem.Spec PyProof.Rows L2
/-! ### defs that end with a list of their own making -/
def spPL (K : PySem.W.Frag) (n : Nat) (f : List D → Option (List D)) : Sp := fun vs H Q _ => ∃ B ds z, Same B H ∧ DqAll K B vs ds ∧ ds.length = n ∧ f ds = some z ∧
  ∀ a ys H' B', Gr B H B' H' → H a = none → B' a = none → H' a = some (.lst ys) → DqAll K B' ys z → Q (.ref a) H'
def lenIsL (n : Nat) (f : List D → Option (List D)) : List D → Option (List D) := fun ds => if ds.length = n then f ds else none
def SemR {π : Type} (K : PySem.W.Frag) (Z : PotK π) (ts : TS) (ω : SL π) : Prop :=
  ∀ (F : Fx) (B : Hp) (vs : L2.St) (H : Hp) (σ : Sg) (p : π) (ds : List D) (p' : π) (E : L2.Ends),
    Rep K Z F B vs H σ p → ω σ p = some (ds, p') → (∀ a vs' H' B' σ', Same B B' → NewL K Z F B' vs' H' σ' p' a ds → E.rt (.ref a) H') → ts E vs H
/-- statements that end with a return of a new list -/
structure FR {π : Type} (S : Sta) (N : List Str) (sc : Scope) (Z : PotK π) (st : List Stmt) (ω : SL π) : Prop where
  ex : ∃ ts, (∀ X, Fam1 S N sc X → PSs X st ts) ∧ SemR S.K Z ts ω
def rlCons {π : Type} (ψ : SS π) (ω : SL π) : SL π := fun σ p => (ψ σ p).bind fun o => match o with
  | .nx σ' p' => ω σ' p'
  | _ => none
def runPL (m : Nat) (ω : SL Unit) (ds : List D) : Option (List D) := (ω (ds.map .val ++ List.replicate (m - ds.length) .un) ()).map (·.1)
section
variable {π : Type} {Z : PotK π} {S : Sta} {N : List Str} {sc : Scope} {e a b : Expr} {es : List Expr} {pos : Pos} {ψ : SS π} {ω : SL π} {s : Stmt} {r : List Stmt}
theorem fr_ret (h : FL S N sc Z e ω) : FR S N sc Z [.Return (some e) pos] ω := by
  obtain ⟨t, a1, a2⟩ := h.ex
  refine ⟨_, fun X hX => pss_one (ps_ret (a1 X hX.1)), fun F B vs H σ p ds p' E r e k => ?_⟩
  exact a2 F B vs H σ p ds p' _ r e fun l H1 B1 s1 n => k l vs H1 B1 σ s1 n
theorem NewL.base {K : PySem.W.Frag} {F : Fx} {B : Hp} {vs : L2.St} {H : Hp} {σ : Sg} {p : π} {l : Addr} {ds : List D} (n : NewL K Z F B vs H σ p l ds) : NewL K Z F B vs H σ p l ds := n
theorem fr_cons (h : FS S N sc Z s ψ) (hr : FR S N sc Z r ω) : FR S N sc Z (s :: r) (rlCons ψ ω) := by
  obtain ⟨t, a1, a2⟩ := h.ex
  obtain ⟨u, b1, b2⟩ := hr.ex
  refine ⟨_, fun X hX => pss_cons (a1 X hX) (b1 X hX), fun F B vs H σ p ds p' E rp e k => ?_⟩
  obtain ⟨o, e1, e⟩ := bnd e
  refine a2 F B vs H σ p o _ rp e1 ?_
  cases o with
  | nx σ1 p1 => exact fun vs1 H1 B1 s1 r1 => b2 F B1 vs1 H1 σ1 p1 ds p' _ r1 e fun l vs2 H2 B2 σ2 s2 n => k l vs2 H2 B2 σ2 (s1.trans s2) n
  | rt d p1 => cases e
  | bk _ _ => cases e
  | ct _ _ => cases e
variable {k n : Nat} {fa : Addr} {fd : FuncData} {ps ks : List Str} {x : Str} {q1 : Pos} {f : List D → Option (List D)}
theorem sem_funL {K : PySem.W.Frag} {ta : TA} {E : XK} (h : SemA K Z ta ω) : SemL K Z (tCall (spPL K n f) [] E ta) (lCall (lenIsL n f) ω) := by
  intro F B vs H σ p d p' Q r e k
  obtain ⟨⟨ds, p1⟩, e1, e⟩ := bnd e
  obtain ⟨z, e2, e3⟩ := mpd e
  cases e3
  have e2 : (if ds.length = n then f ds else none) = some d := e2
  split at e2
  · rename_i hl
    refine h F B vs H σ p ds p1 _ r e1 fun xs H1 B1 s1 r1 d1 => ?_
    show spPL K n f (xs ++ []) H1 Q E
    rw [List.append_nil]
    exact ⟨B1, ds, _, r1.sub, d1, hl, e2, fun a ys H' B' gr ha hb h1 h2 => k a H' B' (s1.trans gr.b) (newL_of r1 gr ha hb h1 h2)⟩
  · cases e2
theorem fl_fun (F : FnOk S.prog S.w S.K S.mg S.base CX0 k fa fd ps (spPL S.K n f)) (hr : Room k S.A) (hg : Gb sc x) (hm : S.mg x = some (.ref fa)) (hk : PySem.W.keepIn S.K (.ref fa) = true) (hb : Binds S.K fd ps []) (ha : FA S N sc Z (e :: es) ω)
    (hdb : (x == ("__debug__" : Str)) = false := by decide) (he : ∀ X : Cx, starEach (e :: es) X.env = (false, eval e X.env) :: starEach es X.env := by intro _; rfl) (hpl : ∀ X : Cx, (backTo pos (starEach es X.env)).any (·.1) = false := by intro _; rfl) :
    FL S N sc Z (.Call (.Name x q1) (e :: es) [] pos) (lCall (lenIsL n f) ω) := by
  obtain ⟨t, a1, a2⟩ := ha.ex
  exact ⟨_, fun X hX => pe_call (ok_fam hX F) (by rw [A_fam hX]; exact hr) (gl_of hX hg) (by rw [mg_of hX]; exact hm) (by rw [K_fam hX]; exact hk) (by rw [K_fam hX]; exact hb) .nil pass0 (a1 X hX) hdb (he X) (hpl X), sem_funL (E := E0) a2⟩
end
theorem body_PL {K : PySem.W.Frag} {N : List Str} {ts : TS} {ω : SL Unit} {n : Nat} {vs : List V} {H : Hp} {Q : VK} {E : XK} (h : SemR K noPot ts ω) (hs : spPL K n (runPL N.length ω) vs H Q E) : ts { nx := fun _ H' => Q .non H', rt := Q } (L2.start N vs) H := by
  obtain ⟨B, ds, z, sb, hd, hl, hz, k⟩ := hs
  obtain ⟨⟨z', u⟩, e1, e2⟩ := mpd hz
  subst e2
  have R : Rep K noPot ⟨0, 0, fun a => H a ≠ none ∧ B a = none, H⟩ B (L2.start N vs) H (ds.map .val ++ List.replicate (N.length - ds.length) .un) () :=
    start_rep hd sb rfl trivial (fun a ha => by cases ha) (fun a ha => ha.2) (fun a ha => ha.1)
  have gr : ∀ {B' H' : Hp} {vs' : L2.St} {σ' : Sg}, Same B B' → Rep K noPot ⟨0, 0, fun a => H a ≠ none ∧ B a = none, H⟩ B' vs' H' σ' () → Gr B H B' H' := fun {B' H' vs' σ'} s' r' => ⟨s', fun a o e => r'.old a o (by intro w; cases w) e, r'.sub, fun a ha => by
    by_cases q : B a = none
    · right
      cases q2 : H a with
      | none => rfl
      | some o => exact absurd (r'.noB a ⟨by rw [q2]; simp, q⟩) ha
    · exact .inl q⟩
  refine h _ B (L2.start N vs) H _ () _ u _ R e1 fun l vs' H' B' σ' s' n => ?_
  obtain ⟨xs, g1, g2⟩ := n.is
  exact k l xs H' B' (gr s' n.rep) n.n0 n.nB g1 g2
section
variable {P : Program} {w : World} {K : PySem.W.Frag} {mg : Str → Option Value} {base : Heap} {N ps : List Str} {qual x : Str} {st : Stmt} {f : Addr} {fd : FuncData}
theorem ok_PL' {k m n : Nat} {ω : SL Unit} {g : List D → Option (List D)} (F : Fun K x qual st f fd) (S : FnScope N ps (defScope st)) (hm : N.length = m) (hn : ps.length = n) (hg : g = runPL m ω) (hb : ∀ A : Around, Room k A → FR ⟨P, w, K, mg, base, A⟩ N (defScope st) noPot (defBody st) ω) :
    FnOk P w K mg base CX0 (k + 1) f fd ps (spPL K n g) := by
  subst hm hn hg
  refine F.ok S (fun vs H Q E ⟨B, ds, z, h1, h2, h3, _⟩ => by rw [DqAll.len h2]; exact h3) fun cd A outer s H vs Q E hr hs => ?_
  obtain ⟨t, h1, h2⟩ := (hb _ hr).ex
  exact ⟨t, h1 _ (fam_self S.nd), body_PL h2 hs⟩
end
/-! ### a new list made with a look at an own one -/
def lBor {π : Type} (i : Nat) (ω : SL π) : SL π := fun σ p => match σ[i]? with
  | some (.own _) => (ω (borS i σ) p).bind fun x => if flatAll x.1 = true then some x else none
  | _ => none
theorem sem_borL {π : Type} {Z : PotK π} {K : PySem.W.Frag} {te : TE} {ω : SL π} (i : Nat) (h : SemL K Z te ω) : SemL K Z te (lBor i ω) := by
  intro F B vs H σ p d p' Q r e k
  unfold lBor at e
  split at e
  case h_2 => cases e
  rename_i ds q
  obtain ⟨⟨x, p1⟩, e1, e⟩ := bnd e
  have e : (if flatAll x = true then some (x, p1) else none) = some (d, p') := e
  split at e
  case isFalse => cases e
  rename_i hf
  cases e
  obtain ⟨a, xs, a1, a2, a3, a4, a5, a6⟩ := r.own i ds q
  have s1 : Same B (upd B a (.lst xs)) := Same.put a4
  obtain ⟨g1, g2⟩ := bor_get i σ ds q
  have afp : a ∉ Z.fp F.pa F.g := fun z => a6 (r.potN a z)
  have r2 : Rep K Z ⟨F.pa, F.g, fun b => F.N b ∨ ∃ j es, j ≠ i ∧ σ[j]? = some (.own es) ∧ vs[j]? = some (some (.ref b)), H⟩ (upd B a (.lst xs)) vs H (borS i σ) p := by
    refine ⟨fun b o e => ?_, fun b o _ e => e, r.pok, fun b h => .inl (r.potN b h), fun b h => ?_, fun b h => ?_, by rw [g1]; exact r.len, fun j d e => ?_, fun j es e => ?_, fun j e => ?_, fun j l b xs ys _ _ e _ => ?_⟩
    · by_cases z : b = a
      · subst z; rw [upd_same] at e; rw [← e]; exact a2
      · rw [upd_ne z] at e; exact r.sub b o e
    · rcases h with h | ⟨j, es, hj, hs, hv⟩
      · rw [upd_ne (show b ≠ a from fun z => a6 (by rw [← z]; exact h))]; exact r.noB b h
      · obtain ⟨c, ys, b1, b2, b3, b4, b5, b6⟩ := r.own j es hs
        rw [hv] at b1
        cases b1
        rw [upd_ne (show b ≠ a from fun z => hj (r.apart j i b es ds hv (by rw [z]; exact a1) hs q))]; exact b4
    · rcases h with h | ⟨j, es, hj, hs, hv⟩
      · exact r.noH b h
      · obtain ⟨c, ys, b1, b2, _⟩ := r.own j es hs
        rw [hv] at b1
        cases b1
        rw [b2]; simp
    · rcases g2 j _ e with ⟨z, w⟩ | ⟨_, z | z⟩
      · cases w
        subst z
        exact ⟨_, a1, .lst upd_same (DqA_up s1 ds xs a3)⟩
      · obtain ⟨v, b1, b2⟩ := r.val j _ z
        exact ⟨v, b1, Dq_up s1 _ _ b2⟩
      · cases z
    · rcases g2 j _ e with ⟨_, w⟩ | ⟨z, _⟩
      · cases w
      · exact absurd rfl (z es)
    · rcases g2 j _ e with ⟨_, w⟩ | ⟨_, z | z⟩
      · cases w
      · exact r.pot j z
      · cases z
    · rcases g2 j _ e with ⟨_, w⟩ | ⟨z, _⟩
      · cases w
      · exact absurd rfl (z xs)
  refine h _ _ vs H _ p d p' Q r2 e1 fun l H2 B2 s2 nl => ?_
  have r3 := nl.rep
  obtain ⟨zs, f1, f2⟩ := nl.is
  have keep : ∀ b o, b ∉ Z.fp F.pa F.g → H b = some o → H2 b = some o := fun b o n e => r3.old b o n e
  have hB2 : B2 a = some (.lst xs) := s2 a _ upd_same
  have s3 : Same B (minus B2 a) := fun b o e => by
    rw [minus_ne (ne_of_none e a4)]; exact s2 b o (s1 b o e)
  have hla : l ≠ a := fun w => by have := nl.nB; rw [w, hB2] at this; cases this
  have hn0 : F.H0 l = none := by
    cases e0 : F.H0 l with
    | none => rfl
    | some o =>
      by_cases z : l ∈ Z.fp F.pa F.g
      · exact absurd (.inl (r.potN l z)) nl.nN
      · have h1 := r.old l o z e0
        have h2 : H l = none := nl.n0
        rw [h2] at h1; cases h1
  refine k l H2 (minus B2 a) s3 ⟨⟨fun b o e => ?_, fun b o n e => keep b o n (r.old b o n e), r3.pok, r.potN, fun b hb => ?_, fun b hb => ?_, r.len, fun j d e => ?_, fun j es eo => ?_, r.pot, r.apart⟩, ⟨zs, f1, DqA_minus hB2 d zs hf f2⟩, by rw [minus_ne hla]; exact nl.nB, hn0, fun z => nl.nN (.inl z), fun j es eo hv => ?_⟩
  · by_cases z : b = a
    · rw [z, minus_same] at e; cases e
    · rw [minus_ne z] at e; exact r3.sub b o e
  · by_cases z : b = a
    · rw [z]; exact minus_same
    · rw [minus_ne z]; exact r3.noB b (.inl hb)
  · by_cases z : b ∈ Z.fp F.pa F.g
    · exact Z.trk F.pa F.g H2 p' r3.pok b z
    · cases e : H b with
      | none => exact absurd e (r.noH b hb)
      | some o => rw [keep b o z e]; simp
  · obtain ⟨v, b1, b2⟩ := r.val j d e
    exact ⟨v, b1, Dq_up s3 _ _ b2⟩
  · obtain ⟨c, ys, h1, h2, h3, h4, h5, h6⟩ := r.own j es eo
    refine ⟨c, ys, h1, keep c _ (fun z => h6 (r.potN c z)) h2, DqA_up s3 _ _ h3, ?_, h5, h6⟩
    by_cases z : j = i
    · subst z
      rw [q] at eo; cases eo
      rw [a1] at h1; cases h1
      exact minus_same
    · have hca : c ≠ a := fun w => z (r.apart j i c es ds h1 (by rw [w]; exact a1) eo q)
      rw [minus_ne hca]
      exact r3.noB c (.inr ⟨j, es, z, eo, h1⟩)
  · by_cases z : j = i
    · subst z
      rw [a1] at hv
      cases hv
      exact hla rfl
    · exact nl.nN (.inr ⟨j, es, z, eo, hv⟩)
section
variable {π : Type} {Z : PotK π} {S : Sta} {N : List Str} {sc : Scope} {e : Expr} {ω : SL π}
theorem fl_borrow (i : Nat) (h : FL S N sc Z e ω) : FL S N sc Z e (lBor i ω) := by
  obtain ⟨te, h1, h2⟩ := h.ex
  exact ⟨te, h1, sem_borL i h2⟩
end
/-! steps -/
def RlR {π : Type} (ω : SL π) (R : List D → π → Prop) : Out π → Prop
  | .nx σ p => EvE ω σ p R
  | _ => False
section
variable {π : Type} {ψ : SS π} {ω : SL π} {σ : Sg} {p : π} {R : List D → π → Prop} {i : Nat} {f : List D → Option (List D)} {a b c d e g : D}
theorem rlR_nx : RlR ω R (.nx σ p) = EvE ω σ p R := rfl
theorem w_rl : EvE (rlCons ψ ω) σ p R ↔ Ends ψ σ p (RlR ω R) := by
  unfold EvE rlCons Ends
  constructor
  · rintro ⟨d, p', h, k⟩
    obtain ⟨o, h1, h2⟩ := bnd h
    cases o with
    | nx σ1 p1 => exact ⟨_, h1, d, p', h2, k⟩
    | rt _ _ => cases h2
    | bk _ _ => cases h2
    | ct _ _ => cases h2
  · rintro ⟨o, h1, h2⟩
    cases o with
    | nx σ1 p1 =>
      obtain ⟨d, p', h3, k⟩ := h2
      exact ⟨d, p', by rw [h1]; exact h3, k⟩
    | rt _ _ => exact h2.elim
    | bk _ _ => exact h2.elim
    | ct _ _ => exact h2.elim
theorem w_lbor : EvE (lBor i ω) σ p R ↔ OwnS σ i fun _ => EvE ω (borS i σ) p fun d p1 => flatAll d = true ∧ R d p1 := by
  unfold EvE lBor OwnS
  constructor
  · rintro ⟨d, p', h, k⟩
    split at h
    · rename_i ds q
      obtain ⟨x, h1, h2⟩ := bnd h
      split at h2
      · rename_i hf
        cases h2
        exact ⟨ds, q, _, _, h1, hf, k⟩
      · cases h2
    · cases h
  · rintro ⟨ds, q, d, p', h1, hf, k⟩
    refine ⟨d, p', ?_, k⟩
    rw [q]
    show (ω (borS i σ) p).bind _ = _
    rw [h1]
    exact if_pos hf
theorem lj_1 : lenIsL 1 f [a] = f [a] := rfl
theorem lj_2 : lenIsL 2 f [a, b] = f [a, b] := rfl
theorem lj_3 : lenIsL 3 f [a, b, c] = f [a, b, c] := rfl
theorem lj_4 : lenIsL 4 f [a, b, c, d] = f [a, b, c, d] := rfl
end
theorem runPLe {m : Nat} {ω : SL Unit} {ds zs : List D} (h : EvE ω (ds.map .val ++ List.replicate (m - ds.length) .un) () fun x _ => x = zs) : runPL m ω ds = some zs := by
  obtain ⟨d, p, h1, h2⟩ := h
  unfold runPL
  rw [h1, h2]; rfl
end FL

namespace FL
open PySem PySem.Spec PyProof.Rows L2

/-! ### sorted(set(e)), e a list of tuples of ints -/
def tupsOf : List D → Option (List (List Int))
  | [] => some []
  | .tuple ds :: r => (intsOf ds).bind fun ns => (tupsOf r).map (ns :: ·)
  | _ => none
theorem tups_of : ∀ {ds : List D} {ks : List (List Int)}, tupsOf ds = some ks → ds = ks.map fun k => .tuple (k.map .int)
  | [], ks, h => by cases h; rfl
  | .tuple es :: r, ks, h => by
    obtain ⟨ns, h1, h2⟩ := bnd (show (intsOf es).bind (fun ns => (tupsOf r).map (ns :: ·)) = some ks from h)
    obtain ⟨ms, h3, h4⟩ := mpd h2
    subst h4
    rw [ints_of h1, tups_of h3]
    rfl
  | .none :: _, _, h => by cases h
  | .bool _ :: _, _, h => by cases h
  | .int _ :: _, _, h => by cases h
  | .str _ :: _, _, h => by cases h
  | .list _ :: _, _, h => by cases h
  | .dict _ :: _, _, h => by cases h
theorem ints_mapS : ∀ ns : List Int, intsOf (ns.map .int) = some ns
  | [] => rfl
  | n :: r => by
    show (intsOf (r.map .int)).map _ = _
    rw [ints_mapS r]
    rfl
theorem tups_map : ∀ ks : List (List Int), tupsOf (ks.map fun k => .tuple (k.map .int)) = some ks
  | [] => rfl
  | k :: r => by
    rw [List.map_cons]
    show (intsOf (k.map .int)).bind _ = _
    rw [ints_mapS, Option.bind_some, tups_map r]
    rfl
def insC (k : List Int) : List (List Int) → List (List Int)
  | [] => [k]
  | x :: r => if TS.code 64 k < TS.code 64 x then k :: x :: r else if k = x then x :: r else x :: insC k r
def sortC (ks : List (List Int)) : List (List Int) := ks.foldr insC []
def goodK (d : Nat) (k : List Int) : Bool := decide (k.length = d) && k.all fun x => decide (0 ≤ x) && decide (x < 64)
def dOf : List (List Int) → Nat
  | [] => 1
  | k :: _ => k.length
def fSetSort : List D → Option (List D)
  | [.list ds] => (tupsOf ds).bind fun ks => if ks.length < 64 ∧ 1 ≤ dOf ks ∧ ks.all (goodK (dOf ks)) = true then some ((sortC ks).map fun k => .tuple (k.map .int)) else none
  | _ => none
theorem insC_mem {k y : List Int} : ∀ {l : List (List Int)}, y ∈ insC k l ↔ y = k ∨ y ∈ l
  | [] => by unfold insC; simp
  | x :: r => by
    unfold insC
    split
    · rw [List.mem_cons]
    · split
      · rename_i h
        subst h
        rw [List.mem_cons]
        exact ⟨.inr, fun h => h.elim .inl id⟩
      · rw [List.mem_cons, insC_mem, List.mem_cons]
        exact ⟨fun h => h.elim (fun a => .inr (.inl a)) fun h => h.elim .inl fun b => .inr (.inr b), fun h => h.elim (fun a => .inr (.inl a)) fun h => h.elim .inl fun b => .inr (.inr b)⟩
theorem sortC_mem {y : List Int} : ∀ {ks : List (List Int)}, y ∈ sortC ks ↔ y ∈ ks
  | [] => Iff.rfl
  | k :: r => by
    show y ∈ insC k (sortC r) ↔ _
    rw [insC_mem, sortC_mem, List.mem_cons]
theorem goodK_bd {d : Nat} {k : List Int} (h : goodK d k = true) : k.length = d ∧ TS.Bd 64 k := by
  unfold goodK at h
  rw [Bool.and_eq_true] at h
  refine ⟨of_decide_eq_true h.1, fun m hm => ?_⟩
  have := List.all_eq_true.mp h.2 m hm
  simpa using this
theorem code_inj' : ∀ {k l : List Int}, k.length = l.length → TS.Bd 64 k → TS.Bd 64 l → TS.code 64 k = TS.code 64 l → k = l
  | [], [], _, _, _, _ => rfl
  | d :: r, e :: q, hl, h1, h2, h => by
    have hl2 : r.length = q.length := by simpa using hl
    rcases Int.lt_trichotomy d e with c | c | c
    · have := TS.code_lt hl2 h1.tail h2.tail c
      omega
    · subst c
      have : TS.code 64 r = TS.code 64 q := by
        have e : TS.code 64 (d :: r) = d * 64 ^ r.length + TS.code 64 r := rfl
        have e2 : TS.code 64 (d :: q) = d * 64 ^ q.length + TS.code 64 q := rfl
        rw [e, e2, hl2] at h
        omega
      rw [code_inj' hl2 h1.tail h2.tail this]
    · have := TS.code_lt hl2.symm h2.tail h1.tail c
      omega
theorem insC_pw {d : Nat} {k : List Int} (hk : goodK d k = true) : ∀ {l : List (List Int)}, (∀ x ∈ l, goodK d x = true) → l.Pairwise (fun x y => TS.code 64 x < TS.code 64 y) → (insC k l).Pairwise (fun x y => TS.code 64 x < TS.code 64 y)
  | [], _, _ => by unfold insC; simp
  | x :: r, hg, hp => by
    have hp2 := List.pairwise_cons.mp hp
    unfold insC
    split
    · rename_i h
      refine List.pairwise_cons.mpr ⟨fun y hy => ?_, hp⟩
      rcases List.mem_cons.mp hy with rfl | hy
      · exact h
      · exact Int.lt_trans h (hp2.1 y hy)
    · split
      · exact hp
      · rename_i h1 h2
        refine List.pairwise_cons.mpr ⟨fun y hy => ?_, insC_pw hk (fun y hy => hg y (List.mem_cons_of_mem _ hy)) hp2.2⟩
        rcases insC_mem.mp hy with rfl | hy
        · obtain ⟨a1, a2⟩ := goodK_bd hk
          obtain ⟨b1, b2⟩ := goodK_bd (hg x List.mem_cons_self)
          have : TS.code 64 y ≠ TS.code 64 x := fun e => h2 (code_inj' (a1.trans b1.symm) a2 b2 e)
          omega
        · exact hp2.1 y hy
theorem sortC_pw {d : Nat} : ∀ {ks : List (List Int)}, (∀ x ∈ ks, goodK d x = true) → (sortC ks).Pairwise (fun x y => TS.code 64 x < TS.code 64 y)
  | [], _ => .nil
  | k :: r, h => insC_pw (h k List.mem_cons_self) (fun x hx => h x (List.mem_cons_of_mem _ (sortC_mem.mp hx))) (sortC_pw fun x hx => h x (List.mem_cons_of_mem _ hx))
theorem uniq_lt {α : Type} {c : α → Int} : ∀ {l m : List α}, l.Pairwise (fun x y => c x < c y) → m.Pairwise (fun x y => c x < c y) → (∀ x, x ∈ l ↔ x ∈ m) → l = m
  | [], [], _, _, _ => rfl
  | [], y :: m, _, _, h => by have := (h y).mpr List.mem_cons_self; cases this
  | x :: l, [], _, _, h => by have := (h x).mp List.mem_cons_self; cases this
  | x :: l, y :: m, hl, hm, h => by
    have hl := List.pairwise_cons.mp hl
    have hm := List.pairwise_cons.mp hm
    have e : x = y := by
      rcases List.mem_cons.mp ((h x).mp List.mem_cons_self) with e | h1
      · exact e
      · rcases List.mem_cons.mp ((h y).mpr List.mem_cons_self) with e | h2
        · exact e.symm
        · have a := hm.1 x h1
          have b := hl.1 y h2
          omega
    subst e
    rw [uniq_lt hl.2 hm.2 fun z => ⟨fun hz => ?_, fun hz => ?_⟩]
    · rcases List.mem_cons.mp ((h z).mp (List.mem_cons_of_mem _ hz)) with rfl | h1
      · have := hl.1 z hz; omega
      · exact h1
    · rcases List.mem_cons.mp ((h z).mpr (List.mem_cons_of_mem _ hz)) with rfl | h1
      · have := hm.1 z hz; omega
      · exact h1
theorem keys_of {K : PySem.W.Frag} {B : Hp} : ∀ {ks : List (List Int)} {xs : List V}, DqAll K B xs (ks.map fun k => .tuple (k.map .int)) → ∃ ps : List (Addr × List Int), xs = (ps.map fun p => V.ref p.1) ∧ ps.map (·.2) = ks ∧ ∀ p ∈ ps, SqT K B p.1 (p.2.map V.int)
  | [], _, h => by
    cases h
    exact ⟨[], rfl, rfl, fun p h => by cases h⟩
  | k :: r, _, h => by
    cases h with
    | cons h1 h2 =>
      obtain ⟨ps, rfl, e, hp⟩ := keys_of h2
      cases h1 with
      | @tup t vs _ g1 g2 =>
        have e2 := vals_int g2
        subst e2
        exact ⟨(t, k) :: ps, rfl, by rw [List.map_cons, e], fun p hm => by
          rcases List.mem_cons.mp hm with rfl | hm
          · exact g1
          · exact hp p hm⟩
theorem dq_keys {K : PySem.W.Frag} {B : Hp} : ∀ {ps : List (Addr × List Int)}, (∀ p ∈ ps, SqT K B p.1 (p.2.map V.int)) → DqAll K B (ps.map fun p => V.ref p.1) ((ps.map (·.2)).map fun k => .tuple (k.map .int))
  | [], _ => .nil
  | p :: r, h => by
    refine .cons (.tup (h p List.mem_cons_self) ?_) (dq_keys fun q hq => h q (List.mem_cons_of_mem _ hq))
    show DqAll K B (p.2.map V.int) (p.2.map .int)
    generalize p.2 = l
    induction l with
    | nil => exact .nil
    | cons a r ih => exact .cons (.int a) ih
def rSS (K : PySem.W.Frag) (P : Program) (w : World) : List V → Hp → VK → Prop := fun xs H Q => rSetOfT K P w xs H fun v H1 => rSortedT K P w [v] H1 Q
theorem v_setsort {K : PySem.W.Frag} {P : Program} {w : World} : ValNL K (rSS K P w) fSetSort := by
  intro B H xs ds z Q sb hx hf k
  unfold fSetSort at hf
  split at hf
  · rename_i es
    obtain ⟨ks, h1, h2⟩ := bnd hf
    split at h2
    · rename_i hc
      obtain ⟨c1, c2, c3⟩ := hc
      cases h2
      have e1 := tups_of h1
      subst e1
      cases hx with
      | cons x1 x2 =>
        cases x2
        cases x1 with
        | lst g1 g2 =>
          obtain ⟨ps, rfl, e2, hp⟩ := keys_of g2
          have hpl : ps.length = ks.length := by rw [← e2, List.length_map]
          have hgood : ∀ p ∈ ps, goodK (dOf ks) p.2 = true := fun p hm => List.all_eq_true.mp c3 _ (by rw [← e2]; exact List.mem_map_of_mem hm)
          refine ⟨_, ps, rfl, SqL.of (sb _ _ g1), fun p hm => sq_t sb (hp p hm), by omega, fun a L hn hL hA => ?_⟩
          have hsub : Same H (upd H a (SetTO P w a L)) := fun b o e => by
            rw [upd_ne (fun z => by rw [z, hn] at e; cases e)]
            exact e
          refine ⟨a, L, dOf ks, 64, rfl, upd_same, fun p hm => sq_t hsub (sq_t sb (hp p (hL p hm))), c2, fun p hm => goodK_bd (hgood p (hL p hm)), fun L' q pm nd few pw hq => ?_⟩
          have hqa : q ≠ a := fun e => by rw [e, upd_same] at hq; cases hq
          have hqH : H q = none := by rw [upd_ne hqa] at hq; exact hq
          have e3 : L'.map (·.2) = sortC ks := by
            have hm : ∀ p ∈ L', p ∈ ps := fun p h => hL p (pm.mem_iff.mp h)
            refine uniq_lt (c := TS.code 64) ?_ (sortC_pw fun x hx => List.all_eq_true.mp c3 x hx) fun y => ?_
            · rw [List.pairwise_map]
              have nd2 := List.pairwise_map.mp nd
              refine (pw.and nd2).imp_of_mem fun {u v} hu hv h => ?_
              obtain ⟨a1, a2⟩ := goodK_bd (hgood u (hm u hu))
              obtain ⟨b1, b2⟩ := goodK_bd (hgood v (hm v hv))
              have : TS.code 64 u.2 ≠ TS.code 64 v.2 := fun e => h.2 (code_inj' (a1.trans b1.symm) a2 b2 e)
              omega
            · rw [sortC_mem, ← e2]
              refine ⟨fun h => ?_, fun h => ?_⟩
              · obtain ⟨p, hp, rfl⟩ := List.mem_map.mp h
                exact List.mem_map_of_mem (hm p hp)
              · obtain ⟨p, hp, rfl⟩ := List.mem_map.mp h
                exact (pm.map (·.2)).mem_iff.mpr (hA p hp)
          rw [← e3] at k
          have hsub2 : Same H (upd (upd H a (SetTO P w a L)) q (.lst (L'.map fun q => V.ref q.1))) := fun b o e => by
            rw [upd_ne (fun z => by rw [z, hqH] at e; cases e)]
            exact hsub b o e
          exact k q _ _ B ⟨Same.refl B, hsub2, fun b o e => hsub2 b o (sb b o e), fun b h => .inl h⟩ hqH (sb.free hqH) upd_same (dq_keys fun p h => hp p (hL p (pm.mem_iff.mp h)))
    · cases h2
  · cases hf
theorem prog_fam {S : Sta} {N : List Str} {sc : Scope} {X : Cx} (hX : Fam S N sc X) : X.prog = S.prog ∧ X.w = S.w := by
  obtain ⟨_, s0, H0, env, outer, stack, ex, fn, pn, hs, e⟩ := hX
  subst e
  exact ⟨rfl, rfl⟩
section
variable {π : Type} {S : Sta} {N : List Str} {sc : Scope} {Z : PotK π} {e : Expr} {ω : SL π} {q1 q2 pos pos2 : Pos}
theorem fl_setsort (hm1 : S.mg "sorted" = none) (hm2 : S.mg "set" = none) (hu : S.A.units + 70 < cLine) (ha : FA S N sc Z [e] ω) (hg1 : Gb sc "sorted" := by rfl) (hg2 : Gb sc "set" := by rfl)
    (he : ∀ X : Cx, starEach [e] X.env = (false, eval e X.env) :: starEach [] X.env := by intro _; rfl) :
    FL S N sc Z (.Call (.Name "sorted" q1) [.Call (.Name "set" q2) [e] [] pos2] [] pos) (lCall fSetSort ω) := by
  obtain ⟨t, a1, a2⟩ := ha.ex
  refine ⟨tCB (rSortedT S.K S.prog S.w) (tCons (tCB (rSetOfT S.K S.prog S.w) t) tNil), fun X hX => ?_, ?_⟩
  · have c1 : CallR X (.type "set") (rSetOfT S.K S.prog S.w) := by
      have := cr_setOfT (X := X) (calm_fam hX) (by rw [A_fam hX]; omega)
      rw [K_fam hX, (prog_fam hX).1, (prog_fam hX).2] at this
      exact this
    have c2 : CallR X (.builtin "sorted") (rSortedT S.K S.prog S.w) := by
      have := cr_sortedT (X := X) (calm_fam hX)
      rw [K_fam hX, (prog_fam hX).1, (prog_fam hX).2] at this
      exact this
    have p1 : PE X (.Call (.Name "set" q2) [e] [] pos2) (tCB (rSetOfT S.K S.prog S.w) t) := pe_callTy c1 (gl_of hX hg2) (by rw [mg_of hX]; exact hm2) (by decide +kernel) (a1 X hX) (by decide) (by decide) (he X) (by rfl)
    exact pe_callB c2 (gl_of hX hg1) (by rw [mg_of hX]; exact hm1) (by decide +kernel) (pa_cons p1 pa_nil (by rfl)) (by decide) (by decide) (by rfl) (by rfl)
  · exact sem_callL (r := rSS S.K S.prog S.w) v_setsort a2
end
end FL

namespace FL
open PySem PySem.Spec PyProof.Rows L2

/-! ### raise, where it never comes to it -/
def sRse {π : Type} : SS π := fun _ _ => none
theorem fs_raise0 {π : Type} {S : Sta} {N : List Str} {sc : Scope} {Z : PotK π} {e c : Option Expr} {pos : Pos} : FS S N sc Z (.Raise e c pos) (sRse (π := π)) :=
  ⟨fun _ _ _ => False, fun _ _ => ⟨fun _ _ _ _ _ _ h => h.elim⟩, fun _ _ _ _ _ _ _ _ _ e _ => by cases e⟩

/-! ### range(i, j, c) -/
def rngC (i c : Int) (n : Nat) : List D := (List.range n).map fun k => .int (i + (k : Nat) * c)
theorem rngC_len {i c : Int} {n : Nat} : (rngC i c n).length = n := by unfold rngC; rw [List.length_map, List.length_range]
theorem rngC_get {lo c : Int} {n i : Nat} {d : D} (h : (rngC lo c n)[i]? = some d) : d = .int (lo + (i : Nat) * c) := by
  unfold rngC at h
  rw [List.getElem?_map] at h
  cases e : (List.range n)[i]? with
  | none => rw [e] at h; cases h
  | some k =>
    rw [e] at h
    obtain ⟨hk, e2⟩ := List.getElem?_eq_some_iff.mp e
    rw [List.getElem_range] at e2
    subst e2
    exact (Option.some.inj h).symm
theorem it_rngC {K : PySem.W.Frag} {B : Hp} {lo c : Int} {n : Nat} : ItOk K (Itc lo c n) B (rngC lo c n) where
  stop := fun i H s hi => have hi := Nat.le_of_eq hi; by rw [rngC_len] at hi; exact hi
  go := fun i H s hi => by rw [rngC_len] at hi; exact hi
  yld := fun i H x H' d s y e B2 s1 s2 => by
    obtain ⟨eH, y⟩ := y
    subst eH y
    rw [rngC_get e]
    exact ⟨B2, Gr.refl s2, .int _⟩
def rngF3 : List D → Option (List D)
  | [.int i, .int j, .int c] => if c ≠ 0 ∧ c.natAbs < 1073741824 ∧ Builtin.Range.small i j c = true ∧ Builtin.Range.rangeSize i j c = ((Builtin.Range.rangeSize i j c).toNat : Int) then some (rngC i c (Builtin.Range.rangeSize i j c).toNat) else none
  | _ => none
theorem vi_rng3 {K : PySem.W.Frag} : ValI K (fun vs H1 R => ∃ (i j c : Int) (n : Nat), vs = [.int i, .int j, .int c] ∧ RgC i j c n ∧ R (Itc i c n) H1) rngF3 := by
  intro B H xs ds z R s hd e k
  unfold rngF3 at e
  split at e
  · rename_i i j c
    split at e
    · rename_i h
      cases e
      cases hd with
      | cons h1 r =>
        cases r with
        | cons h2 r =>
          cases r with
          | cons h3 r =>
            cases r
            cases h1
            cases h2
            cases h3
            exact ⟨i, j, c, _, rfl, h, k _ it_rngC⟩
    · cases e
  · cases e
section
variable {π : Type} {S : Sta} {N : List Str} {sc : Scope} {Z : PotK π} {e a b c tg : Expr} {ω : SL π} {α : SE π} {u v : SO π} {lo hi : Option Expr} {q1 pos p2 : Pos}
theorem fi_rng3 (hg : Gb sc "range") (hm : S.mg "range" = none) (ha : FA S N sc Z [a, b, c] ω) (hs : ∀ X : Cx, starEach [a, b, c] X.env = (false, eval a X.env) :: starEach [b, c] X.env := by intro _; rfl)
    (hpl : ∀ (X : Cx), (backTo pos (starEach [b, c] X.env)).any (·.1) = false := by intro _; rfl) : FI S N sc Z tg (.Call (.Name "range" q1) [a, b, c] [] pos) (iBy rngF3 ω) := by
  obtain ⟨t, a1, a2⟩ := ha.ex
  exact ⟨_, fun X hX => pi_range3 (gl_of hX hg) (by rw [mg_of hX]; exact hm) (a1 X hX) (hs X) (hpl X), sem_iby vi_rng3 a2⟩

/-! ### e[lo:hi], e a tuple or a list -/
def fSliceP (d : D) (lo hi : Option Int) : Option D := match d with
  | .tuple ds => some (.tuple (cutD ds lo hi))
  | .list ds => some (.list (cutD ds lo hi))
  | _ => none
def xSliceP (α : SE π) (u v : SO π) : SE π := fun σ p => (α σ p).bind fun x => (u σ x.2).bind fun y => (v σ y.2).bind fun z => (fSliceP x.1 y.1 z.1).map fun w => (w, z.2)
theorem fe_sliceP (he : FE S N sc Z e α) (hl : FO S N sc Z lo u) (hu : FO S N sc Z hi v) : FE S N sc Z (.Subscript e (.Slice lo hi none p2) pos) (xSliceP α u v) := by
  obtain ⟨te, a1, a2⟩ := he.ex
  obtain ⟨tl, b1, b2⟩ := hl.ex
  obtain ⟨th, c1, c2⟩ := hu.ex
  refine ⟨tSl (fun v l u H Q => rSlA S.K v l u H Q ∨ rSlL S.K v l u H Q) te tl th, fun X hX => by
    have hK : X.K = S.K := by obtain ⟨_, _, _, _, _, _, _, _, _, _, rfl⟩ := hX; rfl
    rw [← hK]
    exact pe_slice (SlR.or sl_tupA sl_list) (a1 X hX) (b1 X hX) (c1 X hX), fun F B vs H σ p d p' Q r q k => ?_⟩
  obtain ⟨⟨x, p1⟩, e1, q⟩ := bnd q
  obtain ⟨⟨y, p2⟩, e2, q⟩ := bnd q
  obtain ⟨⟨z, p3⟩, e3, q⟩ := bnd q
  obtain ⟨w, e4, q⟩ := mpd q
  cases q
  refine a2 F B vs H σ p x p1 _ r e1 fun v1 H1 B1 s1 r1 d1 => ?_
  refine b2 F B1 vs H1 σ p1 y p2 _ r1 e2 fun H2 B2 s2 r2 => ?_
  refine c2 F B2 vs H2 σ p2 z p3 _ r2 e3 fun H3 B3 s3 r3 => ?_
  have d3 := Dq_up (s2.trans s3) _ _ d1
  cases x with
  | tuple ds =>
    cases e4
    cases d3 with
    | @tup a xs _ h1 h2 =>
      refine .inl ⟨a, xs, rfl, sq_t r3.sub h1, fun hw => ?_, fun hw q hq => ?_⟩
      · refine k _ H3 B3 ((s1.trans s2).trans s3) r3 ?_
        rw [cutD_whole (by rw [← DqAll.len h2]; exact hw)]
        exact .tup h1 h2
      · have gr := Gr.new r3.sub (o := .tup (cutV xs y z)) hq
        exact k _ _ _ (((s1.trans s2).trans s3).trans gr.b) (r3.grow gr) (.tup (SqT.of upd_same) (DqA_up gr.b _ _ (cutD_of h2 y z)))
  | list ds =>
    cases e4
    cases d3 with
    | @lst a xs _ h1 h2 =>
      refine .inr ⟨a, xs, rfl, SqL.of (r3.sub _ _ h1), fun q hq => ?_⟩
      have gr := Gr.new r3.sub (o := .lst (cutV xs y z)) hq
      exact k _ _ _ (((s1.trans s2).trans s3).trans gr.b) (r3.grow gr) (.lst upd_same (DqA_up gr.b _ _ (cutD_of h2 y z)))
  | _ => cases e4
end
end FL

namespace FL
open PySem PySem.Spec PyProof.Rows L2
section
variable {π : Type} {α : SE π} {u v : SO π} {σ : Sg} {p : π} {R : D → π → Prop}
theorem w_sliceP : EvE (xSliceP α u v) σ p R ↔ EvE α σ p fun x p1 => EvE u σ p1 fun lo p2 => EvE v σ p2 fun hi p3 => Op (fSliceP x lo hi) fun z => R z p3 := by
  unfold EvE xSliceP; simp only [ev_bind, ev_map]
end
theorem f_spT {ds : List D} {lo hi : Option Int} : fSliceP (.tuple ds) lo hi = some (.tuple (cutD ds lo hi)) := rfl
theorem f_spL {ds : List D} {lo hi : Option Int} : fSliceP (.list ds) lo hi = some (.list (cutD ds lo hi)) := rfl
/-- i, i + c, .. below j -/
def stp (i j c : Int) : List Int := (List.range (Builtin.Range.rangeSize i j c).toNat).map fun k => i + (k : Nat) * c
theorem size_up {i j c : Int} (c0 : 0 < c) : Builtin.Range.rangeSize i j c = if i < j then (j - i - 1) / c + 1 else 0 := by
  unfold Builtin.Range.rangeSize
  rw [if_pos c0]
theorem f_rg3 {i j c : Int} (h0 : 0 ≤ i) (h1 : i ≤ 1000000) (h2 : 0 ≤ j) (h3 : j ≤ 1000000) (c0 : 0 < c) (c1 : c ≤ 1000000) : rngF3 [.int i, .int j, .int c] = some ((stp i j c).map .int) := by
  have hs := size_up (i := i) (j := j) c0
  have hd : i < j → 0 ≤ (j - i - 1) / c ∧ (j - i - 1) / c ≤ j - i - 1 := fun h => ⟨Int.ediv_nonneg (by omega) (by omega), Int.ediv_le_self _ (by omega)⟩
  have hm : i < j → ((j - i - 1) / c) * c ≤ j - i - 1 := fun h => Int.ediv_mul_le _ (by omega)
  show (if _ then _ else _) = _
  rw [if_pos]
  · unfold stp rngC
    rw [List.map_map]
    rfl
  · refine ⟨by omega, by omega, ?_, ?_⟩
    · unfold Builtin.Range.small
      rw [hs]
      simp only [Builtin.Range.rangeFitsLong, Bool.and_eq_true, Bool.or_eq_true, decide_eq_true_eq, beq_iff_eq]
      by_cases g : i < j
      · have := hd g
        have := hm g
        simp only [if_pos g, if_pos (show c > 0 from c0), Bool.and_eq_true, decide_eq_true_eq]
        omega
      · simp only [if_neg g]
        exact ⟨by omega, .inl trivial⟩
    · rw [hs]
      split
      · have := hd (by assumption)
        omega
      · rfl
end FL

namespace FL
open PySem PySem.Spec PyProof.Rows L2
/-! ### values whose numbers are small, and that are small and flat enough to be shown -/
mutual
def nuB (B : Nat) : D → Bool
  | .int i => decide (i.natAbs < B)
  | .list ds => nuBs B ds
  | .tuple ds => nuBs B ds
  | _ => true
def nuBs (B : Nat) : List D → Bool
  | [] => true
  | d :: r => nuB B d && nuBs B r
end
theorem nuBs_iff {B : Nat} {ds : List D} : nuBs B ds = true ↔ ∀ x ∈ ds, nuB B x = true := by
  induction ds with
  | nil =>
    rw [nuBs]
    exact ⟨fun _ x h => (by cases h), fun _ => rfl⟩
  | cons d r ih =>
    rw [nuBs, Bool.and_eq_true, ih]
    constructor
    · rintro ⟨h1, h2⟩ x hx
      rcases List.mem_cons.mp hx with rfl | hx
      · exact h1
      · exact h2 x hx
    · exact fun h => ⟨h _ List.mem_cons_self, fun x hx => h x (List.mem_cons_of_mem _ hx)⟩
theorem nuB_t (B : Nat) (ds : List D) : nuB B (.tuple ds) = nuBs B ds := by rw [nuB]
theorem nuB_l (B : Nat) (ds : List D) : nuB B (.list ds) = nuBs B ds := by rw [nuB]
theorem nuB_i (B : Nat) (i : Int) : nuB B (.int i) = decide (i.natAbs < B) := by rw [nuB]
theorem nuB_ii {B : Nat} {i : Int} (h : i.natAbs < B) : nuB B (.int i) = true := by rw [nuB]; exact decide_eq_true h
theorem nuB_n (B : Nat) : nuB B .none = true := rfl
theorem nuB_b (B : Nat) (b : Bool) : nuB B (.bool b) = true := rfl
theorem nuB_s (B : Nat) (x : Str) : nuB B (.str x) = true := rfl
theorem nuB_d (B : Nat) (x : List (D × D)) : nuB B (.dict x) = true := rfl
theorem nuBs_n (B : Nat) : nuBs B [] = true := by rw [nuBs]
theorem nuBs_c (B : Nat) (d : D) (r : List D) : nuBs B (d :: r) = (nuB B d && nuBs B r) := by rw [nuBs]
theorem nuBs_a (B : Nat) (a b : List D) : nuBs B (a ++ b) = (nuBs B a && nuBs B b) := by
  induction a with
  | nil => rw [nuBs_n]; rfl
  | cons x r ih => rw [List.cons_append, nuBs_c, nuBs_c, ih, Bool.and_assoc]
mutual
theorem nuB_mono {B C : Nat} (h : B ≤ C) : ∀ d : D, nuB B d = true → nuB C d = true
  | .int i, e => by
    rw [nuB_i, decide_eq_true_eq] at e ⊢
    omega
  | .list ds, e => by rw [nuB] at e ⊢; exact nuBs_mono h ds e
  | .tuple ds, e => by rw [nuB] at e ⊢; exact nuBs_mono h ds e
  | .none, _ => rfl
  | .bool _, _ => rfl
  | .str _, _ => rfl
  | .dict _, _ => rfl
theorem nuBs_mono {B C : Nat} (h : B ≤ C) : ∀ ds : List D, nuBs B ds = true → nuBs C ds = true
  | [], _ => by rw [nuBs]
  | d :: r, e => by
    rw [nuBs, Bool.and_eq_true] at e ⊢
    exact ⟨nuB_mono h d e.1, nuBs_mono h r e.2⟩
end
local macro_rules | `(tactic| lk) => `(tactic| (try simp (config := { maxSteps := 3000000 }) (disch := (first | assumption | omega | (simp only [List.length_map, List.length_append, List.length_cons, List.length_nil, List.length_range, rng_len, rngI_len, idxG_len, List.length_take, List.length_drop, List.length_set, List.length_replicate, List.length_reverse, szL]; (first | done | omega)) | exact List.cons_ne_nil _ _ | exact sml rfl | rfl)) only [w_seq, w_set, w_fzS, fzS_o, fzS_v, fzS_u, fzS_p, fzS_s, w_setL, w_ret, w_retN, w_drop, w_sif, w_par, w_par3, w_parLE, w_parEL, w_parLL, w_asg, w_app, w_ext, w_put, w_snil, w_brk, w_cnt, w_for, w_var, w_c, w_bin, w_un, w_lbin, w_test, w_and, w_or, w_not, w_yes, w_if, w_ifL, w_andV, w_orV, w_notV, w_chain, w_nil, w_cons, w_tup, w_disp, w_L, w_call, w_lcall, w_iby, w_iof, w_lrng, w_onone, w_osome, w_slice, w_lslice, w_bor, w_borT, w_funZ, w_comp, op_some, op_map, op_bind, varS_0, varS_s, ownS_0, ownS_s, potS_0, potS_s, boolS_b, intS_i, listS_l, iteB_t, iteB_f, iteB_n, iteB_and, iteB_or, szd_of, seqR_rt, seqR_bk, seqR_ct, loR_nx, loR_ct, loR_bk, loR_rt, outR_nx, outR_rt, List.set_cons_zero, List.set_cons_succ, hid_c, hid_nl, val_c, val_nl, List.length_cons, List.length_nil, List.cons_append, List.nil_append, rep_s, rep_0, Nat.reduceAdd, Nat.reduceSub, Nat.zero_add, f_add, f_addT, f_addS, f_sub, f_mulL, f_mulR, f_div, f_mod, f_pow, f_neg, f_lt, f_le, f_gt, f_ge, f_eqI, f_neI, f_eqS, f_neS, f_eqtI, f_netI, f_eqlI, f_nelI, f_in1, f_nin1, f_in1L, f_nin1L, f_in2, f_nin2, f_in2L, f_nin2L, f_in3, f_nin3, f_in3L, f_nin3L, f_in4, f_nin4, f_in4L, f_nin4L, List.isEmpty_map, f_inT, f_ninT, f_inL, f_ninL, items_t, items_l, f_lenT, f_lenL, f_abs, f_intI, f_intB, f_tupL, f_tupT, f_lstL, f_lstT, f_max2, f_min2, io_nil, io_cons, io_app, intsOf_map, f_maxL, f_maxT, f_minL, f_minT, f_sumL, f_sumT, f_allL, f_anyL, f_catL, w_pop, w_popAt, w_setP, w_dropP, w_asgP, w_appP, flat_map, erase_mapG, w_tupRg, w_lstRg, f_rg1, f_rg2, tg_nil, tg_cons, tg_tup, Option.bind_some, f_eqTE, f_neTE, f_eqLE, f_neLE, f_rev, map_rv, f_mulTI, ixN_last, ixN_p, w_sliceS, w_lsliceS, f_slS, nth_map, f_repr, f_ixL, f_ixT, atI_i, atI_t, atI_0, atI_1, atI_2, atI_lastD, atI_lastG, f_slT, f_slL, cut_n, cut_t, cut_f, cut_b, cut_b0, map_appC, map_snocI, map_snocT, map_consI, map_consT, map_tk, map_dr, map_st, map_stI, map_stT, map_dl, f_rng1, f_rng2, f_lrng, f_enT, f_enL, f_zipT, f_zipL, f_zipTT, f_zipTL, f_zipLT, f_zipLL, zipL_G, f_isN, f_isB, f_isI, f_isS, f_isL, f_isT, f_isnN, f_isnB, f_isnI, f_isnS, f_isnL, f_isnT, f_isiT, f_isiL, f_isiI, f_isiB, f_isiS, f_isiD, isNum_i, isNum_n, isNum_b, isNum_s, isNum_l, isNum_t, isNum_d, isI_n, isI_b, isI_i, isI_s, isI_l, isI_t, isI_d, isTup_n, isTup_b, isTup_i, isTup_s, isTup_l, isTup_t, isTup_d, isLst_n, isLst_b, isLst_i, isLst_s, isLst_l, isLst_t, isLst_d, isIntD_n, isIntD_b, isIntD_i, isIntD_s, isIntD_l, isIntD_t, isIntD_d, isBoolD_n, isBoolD_b, isBoolD_i, isBoolD_s, isBoolD_l, isBoolD_t, isBoolD_d, isStrD_n, isStrD_b, isStrD_i, isStrD_s, isStrD_l, isStrD_t, isStrD_d, isDictD_n, isDictD_b, isDictD_i, isDictD_s, isDictD_l, isDictD_t, isDictD_d, li_0, li_1, li_2, li_3, li_4, li_5, li_6, kw_of, perm_c, perm_n, List.getD_cons_zero, List.getD_cons_succ, bor_0, bor_s, hid_o, hid_v, hid_p, hid_u, shw_o, wipe_n, wipe_c, tg_n, tg_p, tg_3, fl_n, fl_b, fl_i, fl_s, fl_t, fl_an, fl_ac, fl_ai, fl_at, dT_eq, id_eq, List.isEmpty_nil, List.isEmpty_cons, List.length_map, List.length_range, rng_len, rngI_len, idxG_len, List.length_append, List.length_take, List.length_drop, List.length_set, List.length_replicate, Int.toNat_natCast, Int.reduceToNat, decide_true, decide_false, Bool.not_true, Bool.not_false, Bool.and_true, Bool.true_and, Bool.and_false, Bool.false_and, Bool.and_self, Bool.or_true, Bool.true_or, Bool.or_false, Bool.false_or, Bool.or_self, eq_self, true_and, and_true, exists_eq_left, exists_eq_left', and_self, ne_eq, not_false_eq_true, reduceCtorEq, Option.some.injEq, szL]))  local macro_rules | `(tactic| k_asm) => `(tactic| ((try lk); repeat (with_reducible (refine seqR_go ?_); (try lk)))) local macro_rules | `(tactic| k_room) => `(tactic| (refine ⟨?_, ?_⟩ <;> (try simp only [cst_l, cst_t, cst_n, cst_b, csts_n, csts_c, dep_l, dep_t, dep_n, dep_b, dep_i, dep_s, deps_n, deps_c, deps_i, dT_eq, cst_d0, dep_d0, csts_app, deps_app, cst_rev, deps_rev]) <;> (try omega))) local macro_rules | `(tactic| k_flat) => `(tactic| ((try simp only [cst_l, cst_t, cst_n, cst_b, csts_n, csts_c, dep_l, dep_t, dep_n, dep_b, dep_i, dep_s, deps_n, deps_c, deps_i, dT_eq, cst_d0, dep_d0, csts_app, deps_app, cst_rev, deps_rev]); omega))
structure Vn (B c k : Nat) (v : D) : Prop where
  b : Vb c k v
  s : nuB B v = true
theorem Vn.mono {B c k c' k' : Nat} {v : D} (h : Vn B c k v) (hc : c ≤ c') (hk : k ≤ k') : Vn B c' k' v := ⟨h.b.mono hc hk, h.s⟩
theorem Vn.more {B C c k : Nat} {v : D} (h : Vn B c k v) (hB : B ≤ C) : Vn C c k v := ⟨h.b, nuB_mono hB v h.s⟩
theorem Vn.small {B c k : Nat} {v : D} (h : Nat.ble (cst v) c = true) (h2 : Nat.ble v.depth k = true) (h3 : nuB B v = true) : Vn B c k v := ⟨Vb.small h h2, h3⟩
theorem Vn.rp {B c k : Nat} {v : D} (h : Vn B c k v) (hc : c ≤ 10000000) (hk : k ≤ 60) : RpOk (.list [v]) := h.b.rp hc hk
theorem Vn.rp1 {B c k : Nat} {v : D} (h : Vn B c k v) (hc : c ≤ 10000000) (hk : k ≤ 60) : RpOk v := ⟨by have := h.b.1; omega, by have := h.b.2; omega⟩
theorem Vn.all {B c k : Nat} {ds : List D} (h : Vn B c k (.tuple ds)) : ∀ x ∈ ds, nuB B x = true := by
  have := h.s
  rw [nuB_t, nuBs_iff] at this
  exact this
theorem Vn.item {B c k : Nat} {ds : List D} {x : D} (h : Vn B c k (.tuple ds)) (hx : x ∈ ds) : Vn B c k x := ⟨h.b.item hx, h.all x hx⟩
theorem Vn.item1 {B c k : Nat} {ds : List D} {x : D} (h : Vn B c k (.tuple ds)) (hx : x ∈ ds) : Vn B (c - 5) (k - 1) x := by
  refine ⟨⟨?_, ?_⟩, h.all x hx⟩
  · have := h.b.tup.1; have := cst_mem hx; omega
  · have := h.b.tup.2; have := dep_mem hx; omega
theorem Vn.of {B c k : Nat} {ds : List D} (h1 : csts ds + 3 ≤ c) (h2 : PyData.depthAll ds + 1 ≤ k) (h3 : ∀ x ∈ ds, nuB B x = true) : Vn B c k (.tuple ds) := ⟨Vb.mk h1 h2, by rw [nuB_t, nuBs_iff]; exact h3⟩
theorem Vn.tk {B c k n : Nat} {ds : List D} (h : Vn B c k (.tuple ds)) : Vn B c k (.tuple (ds.take n)) := by
  refine ⟨Vb.mk ?_ ?_, ?_⟩
  · have := h.b.tup.1; have := csts_take ds n; omega
  · have := h.b.tup.2; have := deps_take ds n; omega
  · have := h.s
    rw [nuB_t, nuBs_iff] at this ⊢
    exact fun x hx => this x (List.mem_of_mem_take hx)
theorem Vn.dp {B c k n : Nat} {ds : List D} (h : Vn B c k (.tuple ds)) : Vn B c k (.tuple (ds.drop n)) := by
  refine ⟨Vb.mk ?_ ?_, ?_⟩
  · have := h.b.tup.1; have := csts_drop ds n; omega
  · have := h.b.tup.2; have := deps_drop ds n; omega
  · have := h.s
    rw [nuB_t, nuBs_iff] at this ⊢
    exact fun x hx => this x (List.mem_of_mem_drop hx)
theorem Vn.rv {B c k : Nat} {ds : List D} (h : Vn B c k (.tuple ds)) : Vn B c k (.tuple ds.reverse) := by
  refine ⟨Vb.mk ?_ ?_, ?_⟩
  · have := h.b.tup.1; rw [cst_rev]; omega
  · have := h.b.tup.2; rw [deps_rev]; omega
  · have := h.s
    rw [nuB_t, nuBs_iff] at this ⊢
    exact fun x hx => this x (List.mem_reverse.mp hx)
theorem Vn.app {B c k c' k' : Nat} {ds es : List D} (h : Vn B c k (.tuple ds)) (h' : Vn B c' k' (.tuple es)) : Vn B (c + c') (max k k') (.tuple (ds ++ es)) := by
  refine ⟨Vb.mk ?_ ?_, ?_⟩
  · have := h.b.tup.1; have := h'.b.tup.1; rw [csts_app]; omega
  · have := h.b.tup.2; have := h'.b.tup.2; rw [deps_app]; omega
  · have h1 := h.s
    have h2 := h'.s
    rw [nuB_t, nuBs_iff] at h1 h2 ⊢
    intro x hx
    rcases List.mem_append.mp hx with hx | hx
    · exact h1 x hx
    · exact h2 x hx
theorem Vn.lst {B c k : Nat} {ds : List D} (h : Vn B c k (.tuple ds)) : Vn B c k (.list ds) := by
  have h1 := h.b.tup
  refine ⟨Vb.mkL h1.1 h1.2, ?_⟩
  have := h.s
  rw [nuB_t] at this
  rw [nuB_l]; exact this
theorem Vn.one {B c k : Nat} {x : D} (h : Vn B c k x) : Vn B (c + 5) (k + 1) (.tuple [x]) := by
  refine ⟨Vb.mk ?_ ?_, ?_⟩
  · have := h.b.1; k_flat
  · have := h.b.2; k_flat
  · rw [nuB_t, nuBs_c, nuBs_n, h.s]; rfl
theorem Vn.wth {B c k c' k' : Nat} {ds : List D} {x : D} (i j : Nat) (hij : i ≤ j) (h : Vn B c k (.tuple ds)) (h' : Vn B c' k' x) : Vn B (c + c' + 5) (max k (k' + 1)) (.tuple (ds.take i ++ [x] ++ ds.drop j)) := by
  have a := h.b.tup
  have b := h'.b
  refine ⟨Vb.mk ?_ ?_, ?_⟩
  · have := csts_td ds i j hij
    have := b.1
    k_flat
  · have := deps_take ds i
    have := deps_drop ds j
    have := b.2
    k_flat
  · have h1 := h.s
    rw [nuB_t, nuBs_iff] at h1 ⊢
    intro y hy
    simp only [List.mem_append, List.mem_singleton] at hy
    rcases hy with (hy | rfl) | hy
    · exact h1 y (List.mem_of_mem_take hy)
    · exact h'.s
    · exact h1 y (List.mem_of_mem_drop hy)
theorem vn_map {κ : Type} {e : κ → D} {l : List κ} {B c k : Nat} (m : Nat) (h : ∀ x ∈ l, Vn B c k (e x)) (hl : l.length ≤ m) : Vn B (m * (c + 2) + 3) (k + 1) (.tuple (l.map e)) := by
  refine ⟨Vb.mk ?_ ?_, ?_⟩
  · have := csts_map m (fun x hx => (h x hx).b.1) hl
    omega
  · have := deps_bd (ds := l.map e) (n := k) (by
      intro x hx
      obtain ⟨y, hy, rfl⟩ := List.mem_map.mp hx
      exact (h y hy).b.2)
    omega
  · rw [nuB_t, nuBs_iff]
    intro x hx
    obtain ⟨y, hy, rfl⟩ := List.mem_map.mp hx
    exact (h y hy).s
theorem int_vn {B : Nat} {i : Int} (k : Nat) (hk : k < 1900) (h : i.natAbs < 2 ^ k) (hB : i.natAbs < B) : Vn B (k + 3) 0 (.int i) :=
  ⟨⟨cst_i k hk h, by rw [dep_i]; exact Nat.le_refl _⟩, nuB_ii hB⟩
theorem Vn.app0 {B c k c' k' : Nat} {ds es : List D} (h : Vn B c k (.tuple ds)) (h' : Vn B c' k' (.tuple es)) : Vn B (c + c') (max k k') (.tuple (ds ++ es)) := h.app h'
theorem Vn.two {B c k c' k' : Nat} {x y : D} (h : Vn B c k x) (h' : Vn B c' k' y) : Vn B (c + c' + 7) (max k k' + 1) (.tuple [x, y]) := by
  have a := h.b.1
  have b := h'.b.1
  have a' := h.b.2
  have b' := h'.b.2
  refine ⟨Vb.mk ?_ ?_, ?_⟩
  · k_flat
  · k_flat
  · rw [nuB_t, nuBs_c, nuBs_c, nuBs_n, h.s, h'.s]; rfl
theorem Vn.three {B c k c' k' c2 k2 : Nat} {x y z : D} (h : Vn B c k x) (h' : Vn B c' k' y) (h2 : Vn B c2 k2 z) : Vn B (c + c' + c2 + 9) (max (max k k') k2 + 1) (.tuple [x, y, z]) := by
  have a := h.b.1
  have b := h'.b.1
  have e := h2.b.1
  have a' := h.b.2
  have b' := h'.b.2
  have e' := h2.b.2
  refine ⟨Vb.mk ?_ ?_, ?_⟩
  · k_flat
  · k_flat
  · rw [nuB_t, nuBs_c, nuBs_c, nuBs_c, nuBs_n, h.s, h'.s, h2.s]; rfl
theorem csts_at {ds : List D} {i : Nat} {x : D} (h : ds[i]? = some x) : csts ds = csts (ds.take i) + (cst x + 2) + csts (ds.drop (i + 1)) := by
  have hi := (List.getElem?_eq_some_iff.mp h).1
  have e : ds = ds.take i ++ x :: ds.drop (i + 1) := by
    have h2 : ds.drop i = x :: ds.drop (i + 1) := by
      rw [List.drop_eq_getElem_cons hi]
      congr 1
      exact (List.getElem?_eq_some_iff.mp h).2
    rw [← h2, List.take_append_drop]
  conv => lhs; rw [e]
  rw [csts_app, csts_c]; omega
theorem one_cut {ds : List D} {i j : Nat} {x : D} (h : ds[i]? = some x) (hj : j = i + 1) : (ds.take j).drop i = [x] := by
  subst hj
  have hi := (List.getElem?_eq_some_iff.mp h).1
  rw [List.drop_take, show i + 1 - i = 1 by omega, List.drop_eq_getElem_cons hi, (List.getElem?_eq_some_iff.mp h).2]
  rfl
theorem swap_csts {ds : List D} {a b : Nat} (h : a < b) (hb : b < ds.length) : csts (ds.take a ++ (ds.take (b + 1)).drop b ++ (ds.take b).drop (a + 1) ++ (ds.take (a + 1)).drop a ++ ds.drop (b + 1)) = csts ds := by
  have ha : ds[a]? = some ds[a] := List.getElem?_eq_getElem (by omega)
  have hb' : ds[b]? = some ds[b] := List.getElem?_eq_getElem hb
  rw [one_cut ha rfl, one_cut hb' rfl]
  have e1 := csts_at ha
  have h2 : (ds.drop (a + 1))[b - (a + 1)]? = some ds[b] := by rw [List.getElem?_drop, show a + 1 + (b - (a + 1)) = b by omega]; exact hb'
  have e2 := csts_at h2
  rw [List.drop_drop, show a + 1 + (b - (a + 1) + 1) = b + 1 by omega] at e2
  rw [List.drop_take]
  simp only [csts_app, csts_c, csts_n]
  omega
theorem erase_permD {κ : Type} : ∀ (l : List κ) (k : Nat) (h : k < l.length), (l[k] :: l.eraseIdx k).Perm l
  | x :: r, 0, _ => .refl _
  | x :: r, k + 1, h => by
    have ih := erase_permD r k (by simpa using h)
    have hk : k < r.length := by simpa using h
    show (r[k]'hk :: x :: r.eraseIdx k).Perm (x :: r)
    exact (List.Perm.swap x _ _).trans (ih.cons x)
/-! ### loops that search -/
/-- what a turn of a search gives: an answer, or nothing but that I holds -/
def Fnd {π : Type} (I : Sg → Prop) (p : π) : Option D → Out π → Prop
  | some d, o => o = .rt d p
  | none, o => ∃ σ', (o = .nx σ' p ∨ o = .ct σ' p) ∧ I σ'
theorem fnd_s {π : Type} {I : Sg → Prop} {p : π} {d : D} {o : Out π} : Fnd I p (some d) o = (o = .rt d p) := rfl
theorem fnd_n {π : Type} {I : Sg → Prop} {p : π} {o : Out π} : Fnd I p none o = ∃ σ', (o = .nx σ' p ∨ o = .ct σ' p) ∧ I σ' := rfl
theorem loopFind {π κ : Type} {τ : D → Sg → Option Sg} {ψ : SS π} {e : κ → D} {xs : List κ} {σ : Sg} {p : π} {R : Out π → Prop} (g : κ → Option D) (I : Sg → Prop) (h0 : I σ)
    (hs : ∀ x ∈ xs, ∀ σ, I σ → Op (τ (e x) σ) fun σ1 => Ends ψ σ1 p (Fnd I p (g x)))
    (hd : xs.findSome? g = none → ∀ σ, I σ → R (.nx σ p)) (hr : ∀ d, xs.findSome? g = some d → R (.rt d p)) : LoopR τ ψ (xs.map e) σ p R := by
  refine loopP (fun pre σ q => (p = q ∧ I σ) ∧ ∀ x ∈ pre, g x = none) ⟨⟨rfl, h0⟩, fun x h => by cases h⟩ ?_ ?_
  · rintro pre x post σ q hx ⟨⟨rfl, hI⟩, hn⟩
    obtain ⟨σ1, h1, o, h2, h3⟩ := hs x (by rw [hx]; simp) σ hI
    refine ⟨σ1, h1, o, h2, ?_⟩
    have hpre : pre.findSome? g = none := List.findSome?_eq_none_iff.mpr hn
    cases hg : g x with
    | some d =>
      rw [hg, fnd_s] at h3
      subst h3
      refine hr d ?_
      rw [hx, List.findSome?_append, hpre, List.findSome?_cons, hg]; rfl
    | none =>
      rw [hg, fnd_n] at h3
      obtain ⟨σ', h4, h5⟩ := h3
      have h6 : ∀ y ∈ pre ++ [x], g y = none := fun y hy => by
        rcases List.mem_append.mp hy with hy | hy
        · exact hn y hy
        · rw [List.mem_singleton.mp hy]; exact hg
      rcases h4 with rfl | rfl
      · exact ⟨⟨rfl, h5⟩, h6⟩
      · exact ⟨⟨rfl, h5⟩, h6⟩
  · rintro σ q ⟨⟨rfl, hI⟩, hn⟩
    exact hd (List.findSome?_eq_none_iff.mpr hn) σ hI
/-- .. over enumerate -/
theorem loopFindE {π κ : Type} {τ : D → Sg → Option Sg} {ψ : SS π} {e : κ → D} {xs : List κ} {σ : Sg} {p : π} {R : Out π → Prop} (g : Int → κ → Option D) (I : Sg → Prop) (h0 : I σ)
    (hs : ∀ (k : Int) (x : κ), 0 ≤ k → k < xs.length → xs[k.toNat]? = some x → ∀ σ, I σ → Op (τ (.tuple [.int k, e x]) σ) fun σ1 => Ends ψ σ1 p (Fnd I p (g k x)))
    (hd : (idxG 0 xs).findSome? (fun q => g q.1 q.2) = none → ∀ σ, I σ → R (.nx σ p)) (hr : ∀ d, (idxG 0 xs).findSome? (fun q => g q.1 q.2) = some d → R (.rt d p)) : LoopR τ ψ (enumL 0 (xs.map e)) σ p R := by
  rw [enumL_G]
  refine loopFind (e := fun q : Int × κ => .tuple [.int q.1, e q.2]) (fun q => g q.1 q.2) I h0 (fun q hq => ?_) hd hr
  obtain ⟨i, h1, h2⟩ := idxG_mem.mp hq
  have h3 := (List.getElem?_eq_some_iff.mp h2).1
  exact hs q.1 q.2 (by omega) (by omega) (by rw [h1]; simpa using h2)
theorem badIx_find {κ : Type} {f : κ → Bool} {w : Int → D} : ∀ (k : Nat) (xs : List κ), (idxG k xs).findSome? (fun q => if f q.2 = true then some (w q.1) else none) = ((((idxG k xs).filter fun q => f q.2).map (·.1)).head?).map w
  | _, [] => rfl
  | k, x :: r => by
    rw [show idxG k (x :: r) = ((k : Int), x) :: idxG (k + 1) r from rfl, List.findSome?_cons, List.filter_cons]
    cases f x with
    | true => rfl
    | false => exact badIx_find (k + 1) r
theorem badIx_head? {κ : Type} {f : κ → Bool} {w : Int → D} {xs : List κ} : (idxG 0 xs).findSome? (fun q => if f q.2 = true then some (w q.1) else none) = ((badIx f xs).head?).map w := badIx_find 0 xs
theorem badIx_in {κ : Type} {f : κ → Bool} {xs : List κ} {k : Int} (h : k ∈ badIx f xs) : 0 ≤ k ∧ k < xs.length := by
  unfold badIx at h
  obtain ⟨q, hq, rfl⟩ := List.mem_map.mp h
  obtain ⟨i, h1, h2⟩ := idxG_mem.mp (List.mem_filter.mp hq).1
  obtain ⟨h3, _⟩ := List.getElem?_eq_some_iff.mp h2
  rw [h1, Nat.zero_add]
  omega
theorem idx_rng {κ : Type} {ρ : Type} {g : Int → κ → Option ρ} {h : Int → Option ρ} : ∀ (k : Nat) (xs : List κ), (∀ (i : Nat) (x : κ), xs[i]? = some x → g ((k + i : Nat) : Int) x = h ((k + i : Nat) : Int)) → (idxG k xs).findSome? (fun q => g q.1 q.2) = ((List.range xs.length).map fun i => ((k + i : Nat) : Int)).findSome? h
  | _, [], _ => rfl
  | k, x :: r, H => by
    rw [show idxG k (x :: r) = ((k : Int), x) :: idxG (k + 1) r from rfl, List.length_cons, List.range_succ_eq_map, List.map_cons, List.findSome?_cons, List.findSome?_cons]
    have h0 := H 0 x rfl
    rw [Nat.add_zero] at h0
    rw [show ((k + 0 : Nat) : Int) = (k : Int) by rfl]
    show (match g k x with | some b => some b | none => _) = _
    rw [h0]
    cases h (k : Int) with
    | some b => rfl
    | none =>
      have := idx_rng (k + 1) r fun i y hy => by
        have := H (i + 1) y (by simpa using hy)
        rw [show k + (i + 1) = k + 1 + i by omega] at this
        exact this
      show List.findSome? _ _ = List.findSome? _ _
      rw [this, List.map_map]
      congr 1
      refine List.map_congr_left fun i _ => ?_
      show ((k + 1 + i : Nat) : Int) = ((k + (i + 1) : Nat) : Int)
      omega
theorem loopFindD {π : Type} {τ : D → Sg → Option Sg} {ψ : SS π} {xs : List D} {σ : Sg} {p : π} {R : Out π → Prop} (g : D → Option D) (I : Sg → Prop) (h0 : I σ)
    (hs : ∀ x ∈ xs, ∀ σ, I σ → Op (τ x σ) fun σ1 => Ends ψ σ1 p (Fnd I p (g x)))
    (hd : xs.findSome? g = none → ∀ σ, I σ → R (.nx σ p)) (hr : ∀ d, xs.findSome? g = some d → R (.rt d p)) : LoopR τ ψ xs σ p R := by
  have := loopFind (e := fun d : D => d) (xs := xs) g I h0 hs hd hr
  rw [List.map_id'] at this
  exact this
theorem loopFindED {π : Type} {τ : D → Sg → Option Sg} {ψ : SS π} {xs : List D} {σ : Sg} {p : π} {R : Out π → Prop} (g : Int → D → Option D) (I : Sg → Prop) (h0 : I σ)
    (hs : ∀ (k : Int) (x : D), 0 ≤ k → k < xs.length → xs[k.toNat]? = some x → ∀ σ, I σ → Op (τ (.tuple [.int k, x]) σ) fun σ1 => Ends ψ σ1 p (Fnd I p (g k x)))
    (hd : (idxG 0 xs).findSome? (fun q => g q.1 q.2) = none → ∀ σ, I σ → R (.nx σ p)) (hr : ∀ d, (idxG 0 xs).findSome? (fun q => g q.1 q.2) = some d → R (.rt d p)) : LoopR τ ψ (enumL 0 xs) σ p R := by
  have := loopFindE (e := fun d : D => d) (xs := xs) g I h0 hs hd hr
  rw [List.map_id'] at this
  exact this
theorem compBadD {π : Type} {τ : D → Sg → Option Sg} {φ : SB π} {α : SE π} {own : List Nat} {xs : List D} {σ : Sg} {p : π} {R : List D → π → Prop} (f : D → Bool)
    (H : ∀ x ∈ xs, ∀ k : Int, Op (τ (.tuple [.int k, x]) (wipeS σ own)) fun s => EvE φ s p fun b p1 => b = f x ∧ p1 = p ∧ (f x = true → EvE α s p fun d p2 => d = .int k ∧ p2 = p))
    (k : R ((badIx f xs).map .int) p) (hl : xs.length ≤ 16777216 := by first | assumption | omega) (hp : plainAt σ own = true := by rfl) : CompR own τ φ α (enumL 0 xs) σ p R := by
  have := compBad (e := fun d : D => d) (xs := xs) f H k hl hp
  rw [List.map_id'] at this
  exact this
theorem compMD {π : Type} {τ : D → Sg → Option Sg} {α : SE π} {own : List Nat} {xs : List D} {σ : Sg} {p : π} {RL : List D → π → Prop} (h : D → D) (H : ∀ x ∈ xs, Op (τ x (wipeS σ own)) fun s => EvE α s p fun d p2 => d = h x ∧ p2 = p)
    (k : RL (xs.map h) p) (hl : xs.length ≤ 16777216 := by first | assumption | omega | simp) (hp : plainAt σ own = true := by rfl) : CompR own τ xYes α xs σ p RL := by
  have := compM (e := fun d : D => d) (xs := xs) (fun d => d) h H (by rw [List.map_id']; exact k) hl hp
  rw [List.map_id'] at this
  exact this
theorem compMB {π : Type} {τ : D → Sg → Option Sg} {α : SE π} {own : List Nat} {xs : List D} {σ : Sg} {p : π} {RL : List D → π → Prop} (h : D → Bool) (H : ∀ x ∈ xs, Op (τ x (wipeS σ own)) fun s => EvE α s p fun d p2 => d = .bool (h x) ∧ p2 = p)
    (k : RL ((xs.map h).map .bool) p) (hl : xs.length ≤ 16777216 := by first | assumption | omega | simp) (hp : plainAt σ own = true := by rfl) : CompR own τ xYes α xs σ p RL := by
  have := compM (e := fun d : D => d) (xs := xs) .bool h H k hl hp
  rw [List.map_id'] at this
  exact this
theorem all_map_id {κ : Type} (h : κ → Bool) (xs : List κ) : (xs.map h).all id = xs.all h := by rw [List.all_map]; rfl
theorem f_rep2 {ds : List D} (h : ds.length ≤ 1000) : fRep (.list ds) (.int 2) = some (ds ++ ds) := by
  have e : (List.replicate (2 : Int).toNat ds).flatten = ds ++ ds := by
    show ([ds, ds] : List (List D)).flatten = _
    simp
  rw [← e]
  refine if_pos ⟨by decide, by decide, ?_⟩
  show ds.length * 2 ≤ 16777216
  omega
/-- a loop over values of a kind, its turns counted -/
theorem loopQn {π : Type} {τ : D → Sg → Option Sg} {ψ : SS π} {V : List D} {σ : Sg} {p : π} {R : Out π → Prop} (P : D → Prop) (I : Nat → Sg → π → Prop) (h0 : I 0 σ p)
    (hs : ∀ n x σ p, n < V.length → P x → I n σ p → Op (τ x σ) fun σ1 => Ends ψ σ1 p (LoR (I (n + 1)) R))
    (hd : ∀ σ p, I V.length σ p → R (.nx σ p)) (hP : ∀ v ∈ V, P v) : LoopR τ ψ V σ p R := by
  have := loopP (τ := τ) (ψ := ψ) (e := fun d : D => d) (xs := V) (σ := σ) (p := p) (R := R) (fun pre σ p => I pre.length σ p) h0 (fun pre x post σ p hx hI => by
    have h := hs pre.length x σ p (by rw [hx, List.length_append, List.length_cons]; omega) (hP x (by rw [hx]; simp)) hI
    have e : (pre ++ [x]).length = pre.length + 1 := by rw [List.length_append]; rfl
    rw [e]
    exact h) hd
  rw [List.map_id'] at this
  exact this
theorem flatOne {κ : Type} (x : κ) : ∀ n : Nat, (List.replicate n [x]).flatten = List.replicate n x
  | 0 => rfl
  | n + 1 => by rw [List.replicate_succ, List.flatten_cons, flatOne x n, List.replicate_succ]; rfl
theorem f_rep1 {x : D} {n : Nat} (h : n ≤ 100000) : fRep (.list [x]) (.int n) = some (List.replicate n x) := by
  have e : (List.replicate (n : Int).toNat [x]).flatten = List.replicate n x := by rw [Int.toNat_natCast, flatOne]
  unfold fRep
  dsimp only
  rw [if_pos, e]
  refine ⟨by omega, by omega, ?_⟩
  rw [Int.toNat_natCast, szL]
  show 1 * n ≤ 16777216
  omega
theorem most_snoc (a : Int) (l : List Int) (x : Int) : mostOf (a :: (l ++ [x])) = max (mostOf (a :: l)) x := by
  show (l ++ [x]).foldl max a = max (l.foldl max a) x
  rw [List.foldl_append]; rfl
theorem rep_mapI {n : Nat} {a : Int} : List.replicate n (PyData.int a) = (List.replicate n a).map .int := List.map_replicate.symm
theorem any_not {κ : Type} (f : κ → Bool) (xs : List κ) : (xs.map fun d => !f d).any id = !xs.all f := by
  induction xs with
  | nil => rfl
  | cons x r ih => rw [List.map_cons, List.any_cons, List.all_cons, ih]; cases f x <;> rfl
end FL

namespace FL
open PySem PySem.Spec PyProof.Rows L2
/-! ### fractions -/
abbrev Fr := Int × Int
def fD (x : Fr) : D := .tuple [.int x.1, .int x.2]
theorem fD_eq (x : Fr) : fD x = .tuple [.int x.1, .int x.2] := rfl
theorem fD_inj (x y : Fr) (h : fD x = fD y) : x = y := by
  obtain ⟨a, b⟩ := x
  obtain ⟨c, d⟩ := y
  have h1 := PyData.tuple.inj h
  injection h1 with h2 h3
  injection h3 with h4 _
  injection h2 with h2
  injection h4 with h4
  subst h2 h4
  rfl
theorem plB_fD (x : Fr) : plB (fD x) = true := rfl
def gc (a b : Int) : Int := (Nat.gcd a.natAbs b.natAbs : Nat)
def low (a b : Int) : Fr := (a / gc a b, b / gc a b)
def mu (x y : Int) : Nat := if y = 0 then 0 else 2 * (x.natAbs.log2 + y.natAbs.log2) + (if x < y then 1 else 0) + 1
theorem mu_step {x y : Int} (hx : 0 ≤ x) (hy : 0 < y) : mu y (x % y) < mu x y := by
  have hr0 : 0 ≤ x % y := Int.emod_nonneg _ (by omega)
  have hr1 : x % y < y := Int.emod_lt_of_pos _ hy
  unfold mu
  rw [if_neg (show ¬ y = 0 by omega)]
  by_cases hr : x % y = 0
  · rw [if_pos hr]; omega
  · rw [if_neg hr, if_neg (show ¬ y < x % y by omega)]
    by_cases hxy : x < y
    · rw [if_pos hxy, Int.emod_eq_of_lt hx hxy]; omega
    · rw [if_neg hxy]
      have hm : x % y ≤ x - y := by
        have := Int.emod_add_mul_ediv x y
        have h1 : 1 ≤ x / y := by
          have := Int.le_ediv_of_mul_le hy (show 1 * y ≤ x by omega)
          exact this
        have h2 : y * 1 ≤ y * (x / y) := Int.mul_le_mul_of_nonneg_left h1 (by omega)
        omega
      have h2 : 2 * (x % y) ≤ x := by omega
      have h3 : 2 * (x % y).natAbs ≤ x.natAbs := by omega
      have h4 : (x % y).natAbs.log2 + 1 ≤ x.natAbs.log2 := by
        have h7 : 2 ^ (x % y).natAbs.log2 ≤ (x % y).natAbs := Nat.log2_self_le (by omega)
        exact (Nat.le_log2 (by omega)).mpr (by rw [Nat.pow_succ]; omega)
      omega
theorem gc_pos {a b : Int} (hb : 0 < b) : 0 < gc a b := by
  unfold gc
  have := Nat.gcd_pos_of_pos_right a.natAbs (show 0 < b.natAbs by omega)
  omega
theorem gc_le {a b : Int} (hb : 0 < b) : gc a b ≤ b := by
  unfold gc
  have := Nat.gcd_le_right a.natAbs (show 0 < b.natAbs by omega)
  omega
theorem gc_abs {a b : Int} : gc (a.natAbs : Int) b = gc a b := by unfold gc; rw [Int.natAbs_natCast]
theorem lg_le {k : Nat} {a : Int} (h : a.natAbs < 2 ^ k) : a.natAbs.log2 ≤ k := by
  by_cases z : a.natAbs = 0
  · rw [z]; exact Nat.zero_le _
  · exact Nat.le_of_lt ((Nat.log2_lt z).mpr h)
theorem lg_mono {a b : Nat} (h : a ≤ b) (hb : b ≠ 0) : a.log2 ≤ b.log2 := by
  by_cases z : a = 0
  · rw [z]; exact Nat.zero_le _
  · exact (Nat.le_log2 hb).mpr (Nat.le_trans (Nat.log2_self_le z) h)
theorem f_divG {a b : Int} (h0 : 0 < b) (h : b.natAbs.log2 ≤ 8500) : fDiv (.int a) (.int b) = some (.int (a / b)) := by
  unfold fDiv divOk
  have h2 : b.natAbs.log2 < 9000 := by omega
  have h3 : b ≠ 0 := by omega
  simp [h2, h3, Int.fdiv_eq_ediv_of_nonneg a (by omega : 0 ≤ b)]
/-- below, with both parts below 2 ^ k -/
structure Fz (k : Nat) (x : Fr) : Prop where
  pos : 0 < x.2
  up : x.1.natAbs < 2 ^ k
  dn : x.2.natAbs < 2 ^ k
def addF (x y : Fr) : Fr := low (x.1 * y.2 + y.1 * x.2) (x.2 * y.2)
theorem mul_pw {k l : Nat} {a b : Int} (ha : a.natAbs < 2 ^ k) (hb : b.natAbs < 2 ^ l) : (a * b).natAbs < 2 ^ (k + l) := by
  rw [Int.natAbs_mul, Nat.pow_add]
  exact Nat.mul_lt_mul'' ha hb
theorem low_z {k : Nat} {a b : Int} (h0 : 0 < b) (ha : a.natAbs < 2 ^ k) (hb : b.natAbs < 2 ^ k) : Fz k (low a b) := by
  have g0 := gc_pos (a := a) h0
  have hd : gc a b ∣ b := by
    unfold gc
    exact Int.ofNat_dvd_left.mpr (Nat.gcd_dvd_right _ _)
  have hab : ∀ c : Int, (c / gc a b).natAbs ≤ c.natAbs := fun c => Int.natAbs_ediv_le_natAbs c _
  refine ⟨?_, Nat.lt_of_le_of_lt (hab a) ha, Nat.lt_of_le_of_lt (hab b) hb⟩
  exact Int.ediv_pos_of_pos_of_dvd h0 (Int.le_of_lt g0) hd
theorem num_z {k l : Nat} {x y : Fr} (hx : Fz k x) (hy : Fz l y) : (x.1 * y.2 + y.1 * x.2).natAbs < 2 ^ (k + l + 1) ∧ (x.2 * y.2).natAbs < 2 ^ (k + l + 1) ∧ 0 < x.2 * y.2 := by
  have h1 := mul_pw hx.up hy.dn
  have h2 := mul_pw hy.up hx.dn
  have h3 := mul_pw hx.dn hy.dn
  rw [Nat.add_comm l k] at h2
  have := Int.natAbs_add_le (x.1 * y.2) (y.1 * x.2)
  rw [Nat.pow_succ]
  exact ⟨by omega, by omega, Int.mul_pos hx.pos hy.pos⟩
theorem add_z {k l : Nat} {x y : Fr} (hx : Fz k x) (hy : Fz l y) : Fz (k + l + 1) (addF x y) := by
  obtain ⟨h1, h2, h3⟩ := num_z hx hy
  exact low_z h3 h1 h2
theorem Fz.mono {k l : Nat} {x : Fr} (h : Fz k x) (hl : k ≤ l) : Fz l x := ⟨h.pos, Nat.lt_of_lt_of_le h.up (Nat.pow_le_pow_right (by decide) hl), Nat.lt_of_lt_of_le h.dn (Nat.pow_le_pow_right (by decide) hl)⟩
def sumF (ps : List Fr) : Fr := ps.foldl addF (0, 1)
theorem zero_z : Fz 1 ((0, 1) : Fr) := ⟨by decide, by decide, by decide⟩
theorem sum_z {m : Nat} : ∀ (ps : List Fr) (k : Nat) (x : Fr), Fz k x → (∀ y ∈ ps, Fz m y) → Fz (k + (m + 1) * ps.length) (ps.foldl addF x)
  | [], k, x, hx, _ => hx
  | y :: r, k, x, hx, h => by
    have := sum_z r (k + m + 1) (addF x y) (add_z hx (h y List.mem_cons_self)) fun z hz => h z (List.mem_cons_of_mem _ hz)
    rw [List.foldl_cons, List.length_cons]
    exact this.mono (by rw [Nat.mul_succ]; omega)
/-! reduced first or not, the same -/
theorem low_mul {a b c : Int} (hb : 0 < b) (hc : 0 < c) : low (c * a) (c * b) = low a b := by
  have e : gc (c * a) (c * b) = c * gc a b := by
    unfold gc
    rw [Int.natAbs_mul, Int.natAbs_mul, Nat.gcd_mul_left, Int.natCast_mul]
    congr 1
    omega
  unfold low
  rw [e, Int.mul_ediv_mul_of_pos _ _ hc, Int.mul_ediv_mul_of_pos _ _ hc]
theorem low_back {a b : Int} (hb : 0 < b) : gc a b * (low a b).1 = a ∧ gc a b * (low a b).2 = b := by
  unfold low
  have h1 : gc a b ∣ a := by unfold gc; exact Int.ofNat_dvd_left.mpr (Nat.gcd_dvd_left _ _)
  have h2 : gc a b ∣ b := by unfold gc; exact Int.ofNat_dvd_left.mpr (Nat.gcd_dvd_right _ _)
  exact ⟨Int.mul_ediv_cancel' h1, Int.mul_ediv_cancel' h2⟩
theorem add_low {x : Fr} {a b : Int} (hx : 0 < x.2) (hb : 0 < b) : addF x (low a b) = addF x (a, b) := by
  obtain ⟨h1, h2⟩ := low_back (a := a) hb
  have g0 := gc_pos (a := a) hb
  have hp : 0 < (low a b).2 := Int.ediv_pos_of_pos_of_dvd hb (Int.le_of_lt g0) (by unfold gc; exact Int.ofNat_dvd_left.mpr (Nat.gcd_dvd_right _ _))
  unfold addF
  simp only
  rw [← low_mul (Int.mul_pos hx hp) g0]
  congr 1
  · rw [Int.mul_add, ← Int.mul_assoc, ← Int.mul_assoc, h1, Int.mul_comm (gc a b) x.1, Int.mul_assoc, h2]
  · rw [Int.mul_left_comm, h2]
theorem low_dvd {a b : Int} (hb : 0 < b) : (low a b).2 ∣ b := by
  obtain ⟨_, h⟩ := low_back (a := a) hb
  exact ⟨gc a b, by rw [Int.mul_comm]; exact h.symm⟩
/-- below divides T, at most c -/
structure Dv (T : Int) (c : Nat) (x : Fr) : Prop where
  pos : 0 < x.2
  dv : x.2 ∣ T
  le : x.1.natAbs ≤ c * x.2.natAbs
theorem low_cop {a b : Int} (hb : 0 < b) : Int.gcd (low a b).1 (low a b).2 = 1 := by
  unfold low gc
  have h : 0 < Nat.gcd a.natAbs b.natAbs := Nat.gcd_pos_of_pos_right _ (by omega)
  exact Int.gcd_ediv_gcd_ediv_gcd (i := a) (j := b) h
theorem low_dv {a b T : Int} {c : Nat} (hb : 0 < b) (hd : b ∣ a * T) (hc : a.natAbs ≤ c * b.natAbs) : Dv T c (low a b) := by
  obtain ⟨h1, h2⟩ := low_back (a := a) hb
  have g0 := gc_pos (a := a) hb
  have hp : 0 < (low a b).2 := by
    by_cases z : 0 < (low a b).2
    · exact z
    · have : gc a b * (low a b).2 ≤ 0 := Int.mul_nonpos_of_nonneg_of_nonpos (Int.le_of_lt g0) (by omega)
      omega
  have hcop := low_cop (a := a) hb
  generalize low a b = x at h1 h2 hp hcop
  generalize gc a b = g at h1 h2 g0
  refine ⟨hp, ?_, ?_⟩
  · rw [← h1, ← h2, Int.mul_assoc] at hd
    have := Int.dvd_of_mul_dvd_mul_left (by omega) hd
    rw [← Int.natAbs_dvd_natAbs, Int.natAbs_mul] at this
    rw [← Int.natAbs_dvd_natAbs]
    exact Nat.Coprime.dvd_of_dvd_mul_left (by rw [Nat.Coprime, Nat.gcd_comm]; exact hcop) this
  · rw [← h1, ← h2, Int.natAbs_mul, Int.natAbs_mul] at hc
    have h3 : 0 < g.natAbs := by omega
    refine Nat.le_of_mul_le_mul_left ?_ h3
    rw [Nat.mul_left_comm] at hc
    exact hc
theorem add_dv {T : Int} {c d : Nat} {x y : Fr} (hx : Dv T c x) (hy : Dv T d y) : Dv T (c + d) (addF x y) := by
  refine low_dv (Int.mul_pos hx.pos hy.pos) ?_ ?_
  · obtain ⟨u, hu⟩ := hx.dv
    obtain ⟨v, hv⟩ := hy.dv
    refine ⟨x.1 * u + y.1 * v, ?_⟩
    rw [Int.add_mul, Int.mul_add]
    have e1 : x.1 * y.2 * T = x.2 * y.2 * (x.1 * u) := by
      rw [hu]; simp only [Int.mul_comm, Int.mul_left_comm, Int.mul_assoc]
    have e2 : y.1 * x.2 * T = x.2 * y.2 * (y.1 * v) := by
      rw [hv]; simp only [Int.mul_comm, Int.mul_left_comm, Int.mul_assoc]
    rw [e1, e2]
  · have h1 := Int.natAbs_add_le (x.1 * y.2) (y.1 * x.2)
    rw [Int.natAbs_mul, Int.natAbs_mul] at h1
    rw [Int.natAbs_mul]
    have h2 : x.1.natAbs * y.2.natAbs ≤ c * x.2.natAbs * y.2.natAbs := Nat.mul_le_mul_right _ hx.le
    have h3 : y.1.natAbs * x.2.natAbs ≤ d * y.2.natAbs * x.2.natAbs := Nat.mul_le_mul_right _ hy.le
    rw [Nat.add_mul, ← Nat.mul_assoc, ← Nat.mul_assoc]
    have e : d * y.2.natAbs * x.2.natAbs = d * x.2.natAbs * y.2.natAbs := by rw [Nat.mul_right_comm]
    omega
theorem sum_dv {T : Int} {m : Nat} : ∀ (ps : List Fr) (c : Nat) (x : Fr), Dv T c x → (∀ y ∈ ps, Dv T m y) → Dv T (c + m * ps.length) (ps.foldl addF x)
  | [], c, x, hx, _ => hx
  | y :: r, c, x, hx, h => by
    have := sum_dv r (c + m) (addF x y) (add_dv hx (h y List.mem_cons_self)) fun z hz => h z (List.mem_cons_of_mem _ hz)
    rw [List.foldl_cons, List.length_cons, Nat.mul_succ]
    rw [show c + (m * r.length + m) = c + m + m * r.length by omega]
    exact this
theorem zero_dv {T : Int} : Dv T 0 ((0, 1) : Fr) := ⟨by decide, Int.one_dvd T, by decide⟩
theorem Dv.sm {T : Int} {c : Nat} {x : Fr} (h : Dv T c x) (hT : 0 < T) (hT2 : T ≤ 700) (hc : c ≤ 2 ^ 30) : x.1.natAbs < 2 ^ 41 ∧ x.2.natAbs < 2 ^ 41 := by
  have h1 := Int.le_of_dvd hT h.dv
  have h2 := h.pos
  have h3 := h.le
  have : c * x.2.natAbs ≤ 2 ^ 30 * 700 := Nat.mul_le_mul hc (by omega)
  omega
theorem low_bd {a b : Int} {k : Nat} (ha : a.natAbs < k) (hb : b.natAbs < k) : (low a b).1.natAbs < k ∧ (low a b).2.natAbs < k :=
  ⟨Nat.lt_of_le_of_lt (Int.natAbs_ediv_le_natAbs a _) ha, Nat.lt_of_le_of_lt (Int.natAbs_ediv_le_natAbs b _) hb⟩
theorem gc_step {a b : Int} (ha : 0 ≤ a) : gc b (a % b) = gc a b := by
  unfold gc
  congr 1
  rw [Int.natAbs_emod_of_nonneg ha, Nat.gcd_comm b.natAbs, ← Nat.gcd_rec, Nat.gcd_comm]
theorem gc_zero {a : Int} (ha : 0 ≤ a) : gc a 0 = a := by unfold gc; rw [Int.natAbs_zero, Nat.gcd_zero_right]; omega
end FL

namespace Wk
open PySem PySem.Spec PyProof.Rows L2 FL
def topS (i : Nat) : Stmt := PySem.Challenge.pw_evensigns_k42_whole_main_window_squares.main.body.getD i (.Pass ⟨0, 0, 0, 0⟩)

structure Txt (K : PySem.W.Frag) (mg : Str → Option Value) where
  a_likeness : Addr
  d_likeness : FuncData
  F_likeness : Fun K "likeness" "likeness" (topS 1) a_likeness d_likeness
  m_likeness : mg "likeness" = some (.ref a_likeness)
  b_likeness : Binds K d_likeness ["signs", "m"] []
  k0_likeness : KBinds K d_likeness ["signs", "m"] ["m", "signs"] (gU [1, 0] 2) (gVs [1, 0] 2)
  a_window_squares : Addr
  d_window_squares : FuncData
  F_window_squares : Fun K "window_squares" "window_squares" (topS 2) a_window_squares d_window_squares
  m_window_squares : mg "window_squares" = some (.ref a_window_squares)
  b_window_squares : Binds K d_window_squares ["signs", "d", "m"] []
  k0_window_squares : KBinds K d_window_squares ["signs", "d", "m"] ["m", "d", "signs"] (gU [2, 1, 0] 3) (gVs [2, 1, 0] 3)
  a_half_signs : Addr
  d_half_signs : FuncData
  F_half_signs : Fun K "half_signs" "half_signs" (topS 3) a_half_signs d_half_signs
  m_half_signs : mg "half_signs" = some (.ref a_half_signs)
  b_half_signs : Binds K d_half_signs ["n"] []
  a_squares_floor : Addr
  d_squares_floor : FuncData
  F_squares_floor : Fun K "squares_floor" "squares_floor" (topS 4) a_squares_floor d_squares_floor
  m_squares_floor : mg "squares_floor" = some (.ref a_squares_floor)
  b_squares_floor : Binds K d_squares_floor ["n", "d", "m"] []
  k0_squares_floor : KBinds K d_squares_floor ["n", "d", "m"] ["m", "d", "n"] (gU [2, 1, 0] 3) (gVs [2, 1, 0] 3)
  a_farthest : Addr
  d_farthest : FuncData
  F_farthest : Fun K "farthest" "farthest" (topS 6) a_farthest d_farthest
  m_farthest : mg "farthest" = some (.ref a_farthest)
  b_farthest : Binds K d_farthest ["signs"] []
  a_end_worst : Addr
  d_end_worst : FuncData
  F_end_worst : Fun K "end_worst" "end_worst" (topS 7) a_end_worst d_end_worst
  m_end_worst : mg "end_worst" = some (.ref a_end_worst)
  b_end_worst : Binds K d_end_worst ["signs", "word"] []
  a_beginnings : Addr
  d_beginnings : FuncData
  F_beginnings : Fun K "beginnings" "beginnings" (topS 8) a_beginnings d_beginnings
  m_beginnings : mg "beginnings" = some (.ref a_beginnings)
  b_beginnings : Binds K d_beginnings ["n", "word", "c"] []
  a_least_spaced : Addr
  d_least_spaced : FuncData
  F_least_spaced : Fun K "least_spaced" "least_spaced" (topS 9) a_least_spaced d_least_spaced
  m_least_spaced : mg "least_spaced" = some (.ref a_least_spaced)
  b_least_spaced : Binds K d_least_spaced ["n", "word"] []
  a__law_deck : Addr
  d__law_deck : FuncData
  F__law_deck : Fun K "_law_deck" "_law_deck" (topS 11) a__law_deck d__law_deck
  m__law_deck : mg "_law_deck" = some (.ref a__law_deck)
  b__law_deck : Binds K d__law_deck ["script"] []
  a__law_draw : Addr
  d__law_draw : FuncData
  F__law_draw : Fun K "_law_draw" "_law_draw" (topS 12) a__law_draw d__law_draw
  m__law_draw : mg "_law_draw" = some (.ref a__law_draw)
  b__law_draw : Binds K d__law_draw ["deck", "many"] []
  a__law_pick : Addr
  d__law_pick : FuncData
  F__law_pick : Fun K "_law_pick" "_law_pick" (topS 13) a__law_pick d__law_pick
  m__law_pick : mg "_law_pick" = some (.ref a__law_pick)
  b__law_pick : Binds K d__law_pick ["deck", "row"] []
  a__law_signs : Addr
  d__law_signs : FuncData
  F__law_signs : Fun K "_law_signs" "_law_signs" (topS 14) a__law_signs d__law_signs
  m__law_signs : mg "_law_signs" = some (.ref a__law_signs)
  b__law_signs : Binds K d__law_signs ["deck", "many"] []
  a__law_worst : Addr
  d__law_worst : FuncData
  F__law_worst : Fun K "_law_worst" "_law_worst" (topS 15) a__law_worst d__law_worst
  m__law_worst : mg "_law_worst" = some (.ref a__law_worst)
  b__law_worst : Binds K d__law_worst ["signs", "word"] []
  a__law_alike : Addr
  d__law_alike : FuncData
  F__law_alike : Fun K "_law_alike" "_law_alike" (topS 16) a__law_alike d__law_alike
  m__law_alike : mg "_law_alike" = some (.ref a__law_alike)
  b__law_alike : Binds K d__law_alike ["signs", "m"] []
  a__law_squares : Addr
  d__law_squares : FuncData
  F__law_squares : Fun K "_law_squares" "_law_squares" (topS 17) a__law_squares d__law_squares
  m__law_squares : mg "_law_squares" = some (.ref a__law_squares)
  b__law_squares : Binds K d__law_squares ["signs", "d", "m"] []
  a__law_windows : Addr
  d__law_windows : FuncData
  F__law_windows : Fun K "_law_windows" "_law_windows" (topS 18) a__law_windows d__law_windows
  m__law_windows : mg "_law_windows" = some (.ref a__law_windows)
  b__law_windows : Binds K d__law_windows ["signs", "d", "m"] []
  z_abs : mg "abs" = none
  z_int : mg "int" = none
  z_len : mg "len" = none
  z_list : mg "list" = none
  z_max : mg "max" = none
  z_min : mg "min" = none
  z_range : mg "range" = none
  z_repr : mg "repr" = none
  z_sum : mg "sum" = none
  z_tuple : mg "tuple" = none
  z_zip : mg "zip" = none
section
variable {P : Program} {w : World} {K : PySem.W.Frag} {mg : Str → Option Value} {base : Heap}
/-! _law_draw -/
abbrev st__law_draw : Stmt := topS 12
theorem sc__law_draw : FnScope ["deck", "many", "great", "number"] ["deck", "many"] (defScope st__law_draw) := ⟨rfl, rfl, rfl, by decide +kernel, rfl, by decide +kernel, by decide +kernel⟩
def f__law_draw : List D → PotS → Option (D × PotS) := drawFC
theorem dk_great_great : decide ((Sum.inr ("great" : Str) : Key) = Sum.inr ("great" : Str)) = true := by decide +kernel
theorem dk_great_mixed : decide ((Sum.inr ("great" : Str) : Key) = Sum.inr ("mixed" : Str)) = false := by decide +kernel
theorem dk_great_turns : decide ((Sum.inr ("great" : Str) : Key) = Sum.inr ("turns" : Str)) = false := by decide +kernel
theorem dk_mixed_great : decide ((Sum.inr ("mixed" : Str) : Key) = Sum.inr ("great" : Str)) = false := by decide +kernel
theorem dk_mixed_mixed : decide ((Sum.inr ("mixed" : Str) : Key) = Sum.inr ("mixed" : Str)) = true := by decide +kernel
theorem dk_mixed_turns : decide ((Sum.inr ("mixed" : Str) : Key) = Sum.inr ("turns" : Str)) = false := by decide +kernel
theorem dk_turns_great : decide ((Sum.inr ("turns" : Str) : Key) = Sum.inr ("great" : Str)) = false := by decide +kernel
theorem dk_turns_mixed : decide ((Sum.inr ("turns" : Str) : Key) = Sum.inr ("mixed" : Str)) = false := by decide +kernel
theorem dk_turns_turns : decide ((Sum.inr ("turns" : Str) : Key) = Sum.inr ("turns" : Str)) = true := by decide +kernel
theorem get_great (g : Addr) (p : PotS) : valV (potKVC g p) (Sum.inr ("great" : Str) : Key) = some (.ref g) := by
  simp only [potKVC, valV, List.find?_cons, dk_great_great]; rfl
theorem get_mixed (g : Addr) (p : PotS) : valV (potKVC g p) (Sum.inr ("mixed" : Str) : Key) = some (.int p.a) := by
  simp only [potKVC, valV, List.find?_cons, dk_great_mixed, dk_mixed_mixed]; rfl
theorem get_turns (g : Addr) (p : PotS) : valV (potKVC g p) (Sum.inr ("turns" : Str) : Key) = some (.int p.b) := by
  simp only [potKVC, valV, List.find?_cons, dk_great_turns, dk_mixed_turns, dk_turns_turns]; rfl
theorem put_turns (g : Addr) (p : PotS) (n : Int) : putK (potKVC g p) (Sum.inr ("turns" : Str) : Key) (.int n) = potKVC g { p with b := n } := by
  unfold putK potKVC
  simp only [List.any_cons, dk_great_turns, dk_mixed_turns, dk_turns_turns, decide_true, decide_false, Bool.false_or, Bool.true_or, if_true, List.map_cons, List.map_nil, of_decide_eq_false dk_great_turns, of_decide_eq_false dk_mixed_turns, if_false]
theorem put_mixed (g : Addr) (p : PotS) (n : Int) : putK (potKVC g p) (Sum.inr ("mixed" : Str) : Key) (.int n) = potKVC g { p with a := n } := by
  unfold putK potKVC
  simp only [List.any_cons, dk_great_mixed, dk_mixed_mixed, decide_true, decide_false, Bool.false_or, Bool.true_or, if_true, List.map_cons, List.map_nil, of_decide_eq_false dk_great_mixed, of_decide_eq_false dk_turns_mixed, if_false]
theorem ok__law_draw (T : Txt K mg) : FnOk P w K mg base CX0 1 T.a__law_draw T.d__law_draw ["deck", "many"] (spZ K ZC 2 f__law_draw) := by
  refine T.F__law_draw.ok sc__law_draw (fun vs H Q E ⟨pa, ga, B, ws, ds, p, z, p', h0, h1, h2, h3, h4, h5, _⟩ => by rw [h0, List.length_cons, DqAll.len h4]; exact h5) fun cd A outer s H vs Q E hr hs => ?_
  have nd := sc__law_draw.nd
  have hu := hu_of hr
  have hu6 := hu65 hr
  refine ⟨_, pss_cons (ps_if (pt_cmpR op_lt (pv 1) pe_int (nomark _)) (pss_one (ps_ret pe_int)) pss_nil)
    (pss_cons (ps_if (pt_cmpR (op_neD (Nat.lt_of_le_of_lt (Nat.add_le_add_left (by decide : 64 ≤ 70) _) hu6)) (pe_dget hu (pv 0) pe_str (fun _ _ => rfl)) (pe_lst pa_nil) (nomark _))
      (pss_cons (ps_set (i := 2) nd rfl (.inl rfl) (pe_bm0 PySem.F.plainAttrs_list PySem.F.slot_list_pop PySem.F.type_list_pop mt_pop (pe_dget hu (pv 0) pe_str (fun _ _ => rfl))))
      (pss_cons (ps_if (pt_cmpR op_ge (pv 2) (pv 1) (nomark _)) (pss_one (ps_expr (pe_bm PySem.F.plainAttrs_list PySem.F.slot_list_append PySem.F.type_list_append mt_append (pe_dget hu (pv 0) pe_str (fun _ _ => rfl)) (pa_cons (pe_op op_fdivW (pv 2) (pv 1)) pa_nil)))) pss_nil)
      (pss_one (ps_ret (pe_op op_mod (pe_callTy call_int1 (by rfl) T.z_int (by decide +kernel) (pa_cons (pv 2) pa_nil)) (pv 1)))))) pss_nil)
    (pss_cons (ps_dput hu (pv 0) pe_str (pe_op op_add (pe_dget hu (pv 0) pe_str (fun _ _ => rfl)) pe_int) rfl)
    (pss_cons (ps_set (i := 3) nd rfl (.inl rfl) (pe_op op_mod (pe_callTy call_int1 (by rfl) T.z_int (by decide +kernel) (pa_cons (pe_op op_add (pe_dget hu (pv 0) pe_str (fun _ _ => rfl)) (pe_op op_mul pe_int (pe_dget hu (pv 0) pe_str (fun _ _ => rfl)))) pa_nil)) pe_int))
    (pss_cons (ps_set (i := 3) nd rfl (.inl rfl) (pe_op op_mod (pe_callTy call_int1 (by rfl) T.z_int (by decide +kernel) (pa_cons (pe_op op_add (pe_op op_add (pe_op op_mul (pv 3) (pv 3)) (pe_op op_mul pe_int (pe_dget hu (pv 0) pe_str (fun _ _ => rfl)))) pe_int) pa_nil)) pe_int))
    (pss_cons (ps_set (i := 3) nd rfl (.inl rfl) (pe_op op_mod (pe_callTy call_int1 (by rfl) T.z_int (by decide +kernel) (pa_cons (pe_op op_add (pe_op op_mul (pv 3) (pv 3)) (pe_op op_mul (pe_dget hu (pv 0) pe_str (fun _ _ => rfl)) pe_int)) pa_nil)) pe_int))
    (pss_one (ps_ret (pe_op op_mod (pe_callTy call_int1 (by rfl) T.z_int (by decide +kernel) (pa_cons (pe_op op_fdiv (pv 3) pe_int) pa_nil)) (pv 1))))))))), ?_⟩
  obtain ⟨pa, ga, B, ws, ds, p, z, p', rfl, sb, ⟨hne, hp, hg, hlen⟩, hB, hd, hl, hz, k⟩ := hs
  have hBp : B pa = none := hB pa (by simp [ZC])
  have hBg : B ga = none := hB ga (by simp [ZC])
  unfold f__law_draw drawFC at hz
  split at hz
  case h_2 => cases hz
  rename_i m
  split at hz
  case isFalse => cases hz
  rename_i hm
  cases hz
  cases hd with
  | cons d1 d2 =>
  cases d2
  cases d1
  have fin : ∀ (H' : Hp) (v : V), (∀ b, b ≠ pa → b ≠ ga → H b ≠ none → H' b = H b) → ZC.ok pa ga H' (drawC p m).2 → v = .int (drawC p m).1 → Q v H' := by
    intro H' v hk hok hv
    subst hv
    refine k _ H' B ⟨Same.refl B, fun b o n e => ?_, fun b o e => ?_, fun b h => .inl h, hok⟩ (.int _)
    · have n1 : b ≠ pa := fun z => n (by rw [z]; simp [ZC])
      have n2 : b ≠ ga := fun z => n (by rw [z]; simp [ZC])
      rw [hk b n1 n2 (by rw [e]; simp)]; exact e
    · have e' := sb b o e
      rw [hk b (ne_of_none e hBp) (ne_of_none e hBg) (by rw [e']; simp)]; exact e'
  have kget : ∀ {H' : Hp} {q : PotS} {n : Str} {v : V}, H' pa = some (.dK (potKVC ga q)) → valV (potKVC ga q) (Sum.inr n : Key) = some v → DGet H' pa (.str n) (some v) := fun {H' q n v} h1 h2 => by
    have := DGet.k (k := Sum.inr n) h1
    rw [h2] at this; exact this
  refine ⟨_, rfl, _, _, rfl, rfl, _, rfl, ?_⟩
  refine ite2 (fun hc => ?_) (fun hc => ?_)
  · have hc' : m < 2 := of_decide_eq_true hc
    have dB : drawC p m = (0, p) := by unfold drawC; rw [if_pos hc']
    exact fin H _ (fun b _ _ _ => rfl) (by rw [dB]; exact ⟨hne, hp, hg, hlen⟩) (by rw [dB])
  have hc' : ¬ m < 2 := fun z => hc (decide_eq_true z)
  have hm1 : (0 : Int) < m := by omega
  refine ⟨_, rfl, _, _, rfl, kget hp (get_great ga p), Nat.zero_le _, fun q hq => ?_⟩
  have Hg1 : (upd H q (.lst [])) ga = some (.lst (p.great.map .int)) := by rw [upd_ne (ne_of_none hg hq)]; exact hg
  have Hp1 : (upd H q (.lst [])) pa = some (.dK (potKVC ga p)) := by rw [upd_ne (ne_of_none hp hq)]; exact hp
  have keep0 : ∀ b, H b ≠ none → (upd H q (.lst [])) b = H b := fun b h => upd_ne fun z => h (by rw [z]; exact hq)
  refine ⟨.list (p.great.map .int), .list [], .lst (SqL.of Hg1) (dp_ints _), .lst (SqL.of upd_same) .nil, shaped_ints _, shaped_ints [], _, rfl, ?_⟩
  cases hgr : p.great.getLast? with
  | some c =>
    have hne' : p.great ≠ [] := fun z => by rw [z] at hgr; cases hgr
    have e1 : (!PyData.eqv (PyData.list (p.great.map PyData.int)) (PyData.list [])) = true := by
      cases hh : p.great with
      | nil => exact absurd hh hne'
      | cons _ _ => simp [PyData.eqv, PyData.eqvAll]
    rw [e1]
    refine iteT ?_
    have dB : drawC p m = (c % m, { p with great := drawG c m p.great.dropLast }) := by unfold drawC; rw [if_neg hc', hgr]
    have hlast : (p.great.map V.int)[(p.great.map V.int).length - 1]? = some (.int c) := by
      rw [List.length_map, List.getElem?_map, ← List.getLast?_eq_getElem?, hgr]; rfl
    have hpos : 0 < p.great.length := List.length_pos_iff.mpr hne'
    have Hp2 : ∀ o, (upd (upd H q (.lst [])) ga o) pa = some (.dK (potKVC ga p)) := fun o => by rw [upd_ne hne]; exact Hp1
    have fin2 : ∀ (r : List Int) (H' : Hp), r = drawG c m p.great.dropLast → r.length ≤ 63 → H' ga = some (.lst (r.map .int)) → (∀ b, b ≠ ga → H' b = (upd H q (.lst [])) b) → Q (.int (c % m)) H' := fun r H' hr' hl' h1 h2 => by
      refine fin H' _ (fun b n1 n2 h => by rw [h2 b n2]; exact keep0 b h) ⟨hne, ?_, ?_, ?_⟩ (by rw [dB])
      · rw [h2 pa hne, Hp1, dB]; rfl
      · rw [h1, dB, hr']
      · rw [dB]; rw [hr'] at hl'; exact hl'
    refine ⟨_, rfl, _, _, rfl, kget Hp1 (get_great ga p), .inl ⟨rfl, _, SqL.of Hg1⟩, _, _, _, rfl, rfl, Hg1, hlast, ?_⟩
    rw [← List.map_dropLast]
    refine ⟨_, rfl, _, rfl, _, _, rfl, rfl, _, rfl, ?_⟩
    refine ite2 (fun hc => ?_) (fun hc => ?_)
    · have hc' : m ≤ c := of_decide_eq_true hc
      refine ⟨_, rfl, _, _, rfl, kget (Hp2 _) (get_great ga p), .inl ⟨rfl, _, SqL.of upd_same⟩, _, rfl, _, rfl, _, _, rfl, rfl, wide_div (b := 200) hm1 (by omega) (by decide) (by decide), _, _, _, rfl, rfl, upd_same, ?_, ?_⟩
      · rw [List.length_map, List.length_dropLast]
        exact Nat.lt_of_le_of_lt (by omega) (by decide : 63 < sizeLine)
      · refine ⟨_, rfl, .inl ⟨_, rfl, _, rfl, _, _, rfl, rfl, hm1, ?_⟩⟩
        refine fin2 (p.great.dropLast ++ [c / m]) _ (by unfold drawG; rw [if_pos hc']) (by rw [List.length_append, List.length_dropLast, List.length_singleton]; omega) (by rw [upd_same, List.map_append]; rfl) fun b hb => by rw [upd_ne hb, upd_ne hb]
    · have hc' : ¬ m ≤ c := fun z => hc (decide_eq_true z)
      refine ⟨_, rfl, .inl ⟨_, rfl, _, rfl, _, _, rfl, rfl, hm1, ?_⟩⟩
      exact fin2 p.great.dropLast _ (by unfold drawG; rw [if_neg hc']) (by rw [List.length_dropLast]; omega) upd_same fun b hb => upd_ne hb
  | none =>
    have hnil : p.great = [] := List.getLast?_eq_none_iff.mp hgr
    have e1 : (!PyData.eqv (PyData.list (p.great.map PyData.int)) (PyData.list [])) = false := by
      rw [hnil]; rfl
    rw [e1]
    refine iteF ?_
    have dB : drawC p m = (mixC3 p / 64 % m, { p with b := p.b + 1 }) := by unfold drawC; rw [if_neg hc', hgr]
    refine ⟨_, rfl, _, _, rfl, kget Hp1 (get_turns ga p), _, _, rfl, rfl, _, rfl, pa, _, rfl, DPut.k (k := Sum.inr ("turns" : Str)) Hp1 (by show 3 < sizeLine; decide), ?_⟩
    rw [put_turns]
    have h2 : (upd (upd H q (.lst [])) pa (.dK (potKVC ga { p with b := p.b + 1 }))) pa = some (.dK (potKVC ga { p with b := p.b + 1 })) := upd_same
    have a1 := Int.emod_nonneg (p.a + 2654435761 * (p.b + 1)) (show (4294967279 : Int) ≠ 0 by decide)
    have a2 := Int.emod_lt_of_pos (p.a + 2654435761 * (p.b + 1)) (show (0 : Int) < 4294967279 by decide)
    refine ⟨_, rfl, _, _, rfl, kget h2 (get_mixed ga _), _, rfl, _, _, rfl, kget h2 (get_turns ga _), _, _, rfl, rfl, .inl ⟨by decide, by decide⟩, _, _, rfl, rfl, .inl ⟨_, rfl, _, _, rfl, rfl, (by show (0 : Int) < 4294967279; decide), ?_⟩⟩
    refine ⟨_, rfl, _, rfl, _, _, rfl, rfl, .inl ⟨by show -(2 ^ 64 : Int) < (p.a + 2654435761 * (p.b + 1)) % 4294967279; omega, by show (p.a + 2654435761 * (p.b + 1)) % 4294967279 < (2 ^ 64 : Int); omega⟩, _, rfl, _, _, rfl, kget h2 (get_turns ga _), _, _, rfl, rfl, .inl ⟨by decide, by decide⟩, _, _, rfl, rfl, _, _, rfl, rfl, .inl ⟨_, rfl, _, _, rfl, rfl, (by show (0 : Int) < 4294967231; decide), ?_⟩⟩
    have b1 := Int.emod_nonneg (mixC1 p * mixC1 p + 40692 * (p.b + 1) + 23) (show (4294967231 : Int) ≠ 0 by decide)
    have b2 := Int.emod_lt_of_pos (mixC1 p * mixC1 p + 40692 * (p.b + 1) + 23) (show (0 : Int) < 4294967231 by decide)
    refine ⟨_, rfl, _, rfl, _, _, rfl, rfl, .inl ⟨by show -(2 ^ 64 : Int) < (mixC1 p * mixC1 p + 40692 * (p.b + 1) + 23) % 4294967231; omega, by show (mixC1 p * mixC1 p + 40692 * (p.b + 1) + 23) % 4294967231 < (2 ^ 64 : Int); omega⟩, _, rfl, _, _, rfl, kget h2 (get_mixed ga _), _, _, rfl, rfl, .inr ⟨by decide, by decide⟩, _, _, rfl, rfl, .inl ⟨_, rfl, _, _, rfl, rfl, (by show (0 : Int) < 4294967197; decide), ?_⟩⟩
    refine ⟨_, rfl, _, _, rfl, rfl, ⟨by decide, by decide⟩, .inl ⟨_, rfl, _, rfl, _, _, rfl, rfl, hm1, ?_⟩⟩
    refine fin _ _ (fun b n1 n2 h => by rw [upd_ne n1]; exact keep0 b h) ⟨hne, ?_, ?_, ?_⟩ (by rw [dB]; rfl)
    · rw [dB]; exact upd_same
    · rw [upd_ne hne.symm, Hg1, dB]
    · rw [dB]; exact hlen

/-! _law_deck -/
abbrev st__law_deck : Stmt := topS 11
theorem sc__law_deck : FnScope ["script", "deck", "cell", "own"] ["script"] (defScope st__law_deck) := ⟨rfl, rfl, rfl, by decide +kernel, rfl, by decide +kernel, by decide +kernel⟩
theorem ok__law_deck (T : Txt K mg) : FnOk P w K mg base CX0 1 T.a__law_deck T.d__law_deck ["script"] (spMk K ZC) := by
  refine T.F__law_deck.ok sc__law_deck (fun vs H Q E ⟨a, ns, h0, _⟩ => by rw [h0]; rfl) fun cd A outer s H vs Q E hr hs => ?_
  have nd := sc__law_deck.nd
  have hu := hu_of hr
  refine ⟨_, pss_cons (ps_set (i := 1) nd rfl (.inl rfl) (pe_disp (pps_cons pe_str (pe_lst pa_nil) (pps_cons pe_str (pe_op op_add pe_int (pe_callB call_len_seq (by rfl) T.z_len PySem.boot_len (pa_cons (pe_slice sl_list (pv 0) po_none (po_some pe_int)) pa_nil))) (pps_cons pe_str pe_int pps_nil))) (by rfl) (by rfl) (fun z => by cases z) (by decide)))
    (pss_cons (ps_for PassesOwn.never rfl (pi_list (pe_slice sl_list (pv 0) po_none (po_some pe_int))) (pg_name (i := 2) nd rfl (Or.inl rfl))
      (pss_cons (ps_set (i := 3) nd rfl (.inl rfl) (pe_op op_add (pe_op op_mul pe_int (pe_callB call_abs (by rfl) T.z_abs (by decide +kernel) (pa_cons (pv 2) pa_nil))) (pe_callTy call_int1 (by rfl) T.z_int (by decide +kernel) (pa_cons (pe_cmpR op_lt (pv 2) pe_int (nomark _)) pa_nil))))
      (pss_cons (ps_if (pt_cmpR op_ge (pv 3) (pe_op op_pow pe_int pe_int) (nomark _)) (pss_one (ps_expr (pe_bm PySem.F.plainAttrs_list PySem.F.slot_list_append PySem.F.type_list_append mt_append (pe_dget hu (pv 1) pe_str (fun _ _ => rfl)) (pa_cons (pv 3) pa_nil)))) pss_nil)
      (pss_one (ps_dput hu (pv 1) pe_str (pe_op op_mod (pe_callTy call_int1 (by rfl) T.z_int (by decide +kernel) (pa_cons (pe_op op_add (pe_op op_add (pe_op op_mul (pe_dget hu (pv 1) pe_str (fun _ _ => rfl)) pe_int) (pv 3)) pe_int) pa_nil)) pe_int) rfl)))))
    (pss_one (ps_ret (pv 1)))), ?_⟩
  obtain ⟨a, ns, rfl, hS, hlen, k⟩ := hs
  obtain ⟨ms, hms, hml⟩ := cut_ints ns 63
  have kget : ∀ {H' : Hp} {pa ga : Addr} {q : PotS} {n : Str} {v : V}, H' pa = some (.dK (potKVC ga q)) → valV (potKVC ga q) (Sum.inr n : Key) = some v → DGet H' pa (.str n) (some v) := fun {H' pa ga q n v} h1 h2 => by
    have := DGet.k (k := Sum.inr n) h1
    rw [h2] at this; exact this
  intro pa hpa
  have s1 : Same H (upd H pa (.dK [])) := Same.put hpa
  refine ⟨Nat.zero_le _, fun R hR => ?_⟩
  have nRp : pa ≠ R := fun w => by rw [← w, upd_same] at hR; cases hR
  have hR0 : H R = none := s1.free hR
  have s2 : Same H (upd (upd H pa (.dK [])) R (.lst [])) := s1.trans (Same.put hR)
  refine ⟨_, rfl, 63, rfl, a, ns.map .int, rfl, s2.seq hS, fun q hq => ?_⟩
  have npq : pa ≠ q := fun w => by rw [← w, upd_ne nRp, upd_same] at hq; cases hq
  have nRq : R ≠ q := fun w => by rw [← w, upd_same] at hq; cases hq
  have s3 : Same H (upd (upd (upd H pa (.dK [])) R (.lst [])) q (.lst (cutV (ns.map V.int) none (some 63)))) := s2.trans (Same.put hq)
  refine ⟨q, _, rfl, .inl (SqL.of upd_same), _, _, rfl, rfl, by rw [upd_ne npq, upd_ne nRp, upd_same], [(Sum.inr ("great" : Str), .ref R), (Sum.inr ("mixed" : Str), .int _), (Sum.inr ("turns" : Str), .int 0)], rfl, (by show 3 ≤ 15; decide), ?_⟩
  have hm : ∀ z : Int, mergeK [] [(Sum.inr ("great" : Str), .ref R), (Sum.inr ("mixed" : Str), .int z), (Sum.inr ("turns" : Str), .int 0)] = potKVC R ⟨[], z, 0⟩ := fun z => by
    unfold mergeK potKVC
    simp only [List.foldl_cons, List.foldl_nil, putK, List.any_nil, List.any_cons, dk_great_mixed, dk_great_turns, dk_mixed_turns, Bool.or_false, Bool.false_eq_true, if_false, List.nil_append, List.cons_append]
  rw [hm]
  generalize hz : (_ : Int) + ((cutV (ns.map V.int) none (some 63)).length : Int) = z0
  have h4 : ∀ o, (upd (upd (upd (upd H pa (.dK [])) R (.lst [])) q (.lst (cutV (ns.map V.int) none (some 63)))) pa o) R = some (.lst []) := fun o => by rw [upd_ne nRp.symm, upd_ne nRq, upd_same]
  have s4 : ∀ o, Same H (upd (upd (upd (upd H pa (.dK [])) R (.lst [])) q (.lst (cutV (ns.map V.int) none (some 63)))) pa o) := fun o b u e => by rw [upd_ne (ne_of_none e hpa)]; exact s3 b u e
  refine ⟨_, rfl, 63, rfl, a, ns.map .int, rfl, (s4 _).seq hS, fun q2 hq2 => ⟨q2, rfl, ⟨_, SqL.of upd_same⟩, ?_⟩⟩
  have npq2 : pa ≠ q2 := fun w => by rw [← w, upd_same] at hq2; cases hq2
  have nRq2 : R ≠ q2 := fun w => by rw [← w, h4] at hq2; cases hq2
  rw [hms] at *
  refine for_list (K := K) (a := q2) (xs := ms.map V.int) (fun i σ H2 => ∃ (p : PotS) (v u : Option V), σ = [some (.ref a), some (.ref pa), v, u] ∧ H2 pa = some (.dK (potKVC R p)) ∧ H2 R = some (.lst (p.great.map .int)) ∧ p.great.length ≤ i ∧ H2 q2 = some (.lst (ms.map V.int)) ∧ Same H H2)
    ⟨⟨[], z0, 0⟩, _, _, rfl, by rw [upd_ne npq2, upd_same], by rw [upd_ne nRq2, h4]; rfl, Nat.zero_le _, upd_same, (s4 _).trans (Same.put hq2)⟩ (fun i σ H2 _ ⟨_, _, _, _, _, _, _, h, _⟩ => SqL.of h) ?_ ?_
  · rintro i x σ H2 hi ⟨p, v, u, rfl, f1, f2, f3, f4, f5⟩
    rw [List.getElem?_map] at hi
    obtain ⟨c, hc, rfl⟩ := mpd hi
    have hi2 : i < ms.length := (List.getElem?_eq_some_iff.mp hc).1
    refine ⟨_, rfl, _, rfl, _, _, rfl, rfl, .inl ⟨by decide, by decide⟩, _, rfl, _, _, rfl, rfl, .inr ⟨_, rfl, _, _, rfl, rfl, ?_⟩⟩
    refine ⟨_, rfl, _, _, rfl, rfl, ⟨by decide, by decide, by decide⟩, _, _, rfl, rfl, _, rfl, ?_⟩
    refine ite2 (fun _ => ?_) (fun _ => ?_)
    · refine ⟨_, rfl, _, _, rfl, kget f1 (get_great R p), .inl ⟨rfl, _, SqL.of f2⟩, _, rfl, _, _, _, rfl, rfl, f2, by rw [List.length_map]; exact Nat.lt_of_le_of_lt (show p.great.length ≤ 63 by omega) (by decide), ?_⟩
      have g1 : ∀ o, (upd H2 R o) pa = some (.dK (potKVC R p)) := fun o => by rw [upd_ne nRp]; exact f1
      refine ⟨_, rfl, _, _, rfl, kget (g1 _) (get_mixed R p), _, _, rfl, rfl, .inr ⟨by decide, by decide⟩, _, rfl, _, _, rfl, rfl, _, _, rfl, rfl, .inl ⟨_, rfl, _, _, rfl, rfl, (by show (0 : Int) < 4294967291; decide), _, rfl, pa, _, rfl, DPut.k (k := Sum.inr ("mixed" : Str)) (g1 _) (by show 3 < sizeLine; decide), ?_⟩⟩
      rw [put_mixed]
      refine ⟨⟨p.great ++ [2 * (if c < 0 then -c else c) + if decide (c < 0) = true then 1 else 0], _, p.b⟩, _, _, rfl, upd_same, by rw [upd_ne nRp.symm, upd_same, List.map_append]; rfl, by rw [List.length_append]; exact Nat.succ_le_succ f3, by rw [upd_ne npq2.symm, upd_ne nRq2.symm]; exact f4, fun b o e => ?_⟩
      rw [upd_ne (ne_of_none e hpa), upd_ne (ne_of_none e hR0)]; exact f5 b o e
    · refine ⟨_, rfl, _, _, rfl, kget f1 (get_mixed R p), _, _, rfl, rfl, .inr ⟨by decide, by decide⟩, _, rfl, _, _, rfl, rfl, _, _, rfl, rfl, .inl ⟨_, rfl, _, _, rfl, rfl, (by show (0 : Int) < 4294967291; decide), _, rfl, pa, _, rfl, DPut.k (k := Sum.inr ("mixed" : Str)) f1 (by show 3 < sizeLine; decide), ?_⟩⟩
      rw [put_mixed]
      refine ⟨⟨p.great, _, p.b⟩, _, _, rfl, upd_same, by rw [upd_ne nRp.symm]; exact f2, Nat.le_succ_of_le f3, by rw [upd_ne npq2.symm]; exact f4, fun b o e => ?_⟩
      rw [upd_ne (ne_of_none e hpa)]; exact f5 b o e
  · rintro σ H2 ⟨p, v, u, rfl, f1, f2, f3, f4, f5⟩
    rw [List.length_map] at f3
    exact ⟨_, rfl, k pa R _ p hpa hR0 f5 ⟨nRp, f1, f2, by omega⟩⟩

/-! likeness -/
abbrev st_likeness : Stmt := topS 1
theorem sc_likeness : FnScope ["signs", "m", "one", "other"] ["signs", "m"] (defScope st_likeness) := ⟨rfl, rfl, rfl, by decide +kernel, rfl, by decide +kernel, by decide +kernel⟩
def s_likeness : SS Unit := (sRet (xCall fSum (aCons (xLst (lComp [2, 3] (iBy zipFA (aCons (xVar 0) (aCons (xSliceP (xVar 0) (oSome (xVar 1)) oNone) aNil))) (tgP 2 3) xYes (xBin fMul (xVar 2) (xVar 3)))) aNil)))
def f_likeness : List D → Option D := runP 4 s_likeness
theorem ok_likeness (T : Txt K mg) : FnOk P w K mg base CX0 1 T.a_likeness T.d_likeness ["signs", "m"] (spP K 2 f_likeness) := by
  refine ok_P' (k := 0) (ψ := s_likeness) T.F_likeness sc_likeness rfl rfl rfl ?_
  intro A hr
  have hu := hu65 hr
  exact (fs_one (fs_ret (fc_sum T.z_sum (fa_cons (fe_L (fl_lc [("one", 2), ("other", 3)] (hi := (fi_zipA rfl T.z_zip (fa_cons (fe_var 0) (fa_cons (fe_sliceP (fe_var 0) (fo_some (fe_var 1)) fo_none) fa_nil)))) (hg := (fgc_p 2 3)) (ht := fts_nil) (he := (fe_mul (fe_var 2) (fe_var 3))))) fa_nil))))
/-! window_squares -/
abbrev st_window_squares : Stmt := topS 2
theorem sc_window_squares : FnScope ["signs", "d", "m", "n", "found", "j"] ["signs", "d", "m"] (defScope st_window_squares) := ⟨rfl, rfl, rfl, by decide +kernel, rfl, by decide +kernel, by decide +kernel⟩
def s_window_squares : SS Unit := (sSeq (sSet 3 (xCall fLen (aCons (xVar 0) aNil)))
  (sSeq (sSet 4 (xBin fMul (xVar 2) (xVar 3)))
  (sSeq (sFor (iBy rngF2 (aCons (xC (.int 1)) (aCons (xVar 2) aNil))) (tgN 5) (sSeq (sIf (xTest (xBin fGe (xBin fMul (xVar 5) (xVar 1)) (xVar 3))) sBrk sNil)
  (sSet 4 (xBin fAdd (xVar 4) (xBin fMul (xBin fMul (xC (.int 2)) (xBin fSub (xVar 2) (xVar 5))) (xCall (lenIs 2 f_likeness) (aCons (xVar 0) (aCons (xBin fMul (xVar 5) (xVar 1)) aNil))))))))
  (sRet (xVar 4)))))
def f_window_squares : List D → Option D := runP 6 s_window_squares
theorem ok_window_squares (T : Txt K mg) : FnOk P w K mg base CX0 2 T.a_window_squares T.d_window_squares ["signs", "d", "m"] (spP K 3 f_window_squares) := by
  refine ok_P' (k := 1) (ψ := s_window_squares) T.F_window_squares sc_window_squares rfl rfl rfl ?_
  intro A hr
  have hu := hu65 hr
  exact (fs_cons (fs_set 3 (fc_len T.z_len (fa_cons (fe_var 0) fa_nil)))
  (fs_cons (fs_set 4 (fe_mul (fe_var 2) (fe_var 3)))
  (fs_cons (fs_for (fi_rng2 rfl T.z_range (fa_cons fe_int (fa_cons (fe_var 2) fa_nil))) (fg_n 5) (fs_cons (fs_if (ft_ge hu (fe_mul (fe_var 5) (fe_var 1)) (fe_var 3)) (fs_one fs_brk) fs_nil)
  (fs_one (fs_set 4 (fe_add (fe_var 4) (fe_mul (fe_mul fe_int (fe_sub (fe_var 2) (fe_var 5))) (fe_fun (ok_likeness T) (hr.mono (by decide)) (by rfl) T.m_likeness T.F_likeness.kp T.b_likeness (fa_cons (fe_var 0) (fa_cons (fe_mul (fe_var 5) (fe_var 1)) fa_nil)))))))))
  (fs_one (fs_ret (fe_var 4))))))
/-! half_signs -/
abbrev st_half_signs : Stmt := topS 3
theorem sc_half_signs : FnScope ["n", "found", "step", "longer", "own"] ["n"] (defScope st_half_signs) := ⟨rfl, rfl, rfl, by decide +kernel, rfl, by decide +kernel, by decide +kernel⟩
def s_half_signs : SS Unit := (sSeq (sSet 1 (xLst (lDisp (aCons (xTup (aCons (xC (.int 1)) aNil)) aNil))))
  (sSeq (sFor (iBy rngF1 (aCons (xBin fSub (xVar 0) (xC (.int 1))) aNil)) (tgN 2) (sSeq (sSetL 3 (lDisp aNil))
  (sSeq (sFor (iOf (xVar 1)) (tgN 4) (sExt 3 (xLst (lDisp (aCons (xBin fAdd (xVar 4) (xTup (aCons (xC (.int 1)) aNil))) (aCons (xBin fAdd (xVar 4) (xTup (aCons (xUn fNeg (xC (.int 1))) aNil))) aNil))))))
  (sFz 3 (sSet 1 (xVar 3))))))
  (sRet (xVar 1))))
def f_half_signs : List D → Option D := runP 5 s_half_signs
theorem ok_half_signs (T : Txt K mg) : FnOk P w K mg base CX0 1 T.a_half_signs T.d_half_signs ["n"] (spP K 1 f_half_signs) := by
  refine ok_P' (k := 0) (ψ := s_half_signs) T.F_half_signs sc_half_signs rfl rfl rfl ?_
  intro A hr
  have hu := hu65 hr
  exact (fs_cons (fs_set 1 (fe_L (fl_disp (fa_cons (fe_tup (fa_cons fe_int fa_nil)) fa_nil))))
  (fs_cons (fs_for (fi_rng1 rfl T.z_range (fa_cons (fe_sub (fe_var 0) fe_int) fa_nil)) (fg_n 2) (fs_cons (fs_setL 3 (fl_disp fa_nil))
  (fs_cons (fs_for (fi_seq (fe_var 1)) (fg_n 4) (fs_one (fs_ext 3 (fa_cons (fe_L (fl_disp (fa_cons (fe_add (fe_var 4) (fe_tup (fa_cons fe_int fa_nil))) (fa_cons (fe_add (fe_var 4) (fe_tup (fa_cons (fe_neg fe_int) fa_nil))) fa_nil)))) fa_nil))))
  (fs_one (fs_fz 3 (fs_set 1 (fe_var 3)))))))
  (fs_one (fs_ret (fe_var 1)))))
/-! squares_floor -/
abbrev st_squares_floor : Stmt := topS 4
theorem sc_squares_floor : FnScope ["n", "d", "m", "least", "signs", "c"] ["n", "d", "m"] (defScope st_squares_floor) := ⟨rfl, rfl, rfl, by decide +kernel, rfl, by decide +kernel, by decide +kernel⟩
def s_squares_floor : SS Unit := (sSeq (sSet 3 (xCall fMin (aCons (xLst (lComp [4] (iOf (xCall (lenIs 1 f_half_signs) (aCons (xVar 0) aNil))) (tgN 4) xYes (xCall (lenIs 3 f_window_squares) (aCons (xVar 4) (aCons (xVar 1) (aCons (xVar 2) aNil)))))) aNil)))
  (sSeq (sSet 5 (xC (.int 0)))
  (sSeq (sWhile (xTest (xBin fLt (xBin fMul (xBin fMul (xVar 5) (xVar 5)) (xBin fAdd (xVar 0) (xBin fMul (xBin fSub (xVar 2) (xC (.int 1))) (xVar 1)))) (xVar 3))) (sSet 5 (xBin fAdd (xVar 5) (xC (.int 1)))) 100000)
  (sRet (xVar 5)))))
def f_squares_floor : List D → Option D := runP 6 s_squares_floor
theorem ok_squares_floor (T : Txt K mg) : FnOk P w K mg base CX0 3 T.a_squares_floor T.d_squares_floor ["n", "d", "m"] (spP K 3 f_squares_floor) := by
  refine ok_P' (k := 2) (ψ := s_squares_floor) T.F_squares_floor sc_squares_floor rfl rfl rfl ?_
  intro A hr
  have hu := hu65 hr
  exact (fs_cons (fs_set 3 (fc_min hu T.z_min (fa_cons (fe_L (fl_lc [("signs", 4)] (hi := (fi_seq (fe_fun (ok_half_signs T) (hr.mono (by decide)) (by rfl) T.m_half_signs T.F_half_signs.kp T.b_half_signs (fa_cons (fe_var 0) fa_nil)))) (hg := (fgc_n 4)) (ht := fts_nil) (he := (fe_fun (ok_window_squares T) (hr.mono (by decide)) (by rfl) T.m_window_squares T.F_window_squares.kp T.b_window_squares (fa_cons (fe_var 4) (fa_cons (fe_var 1) (fa_cons (fe_var 2) fa_nil))))))) fa_nil)))
  (fs_cons (fs_set 5 fe_int)
  (fs_cons (fs_while 100000 (ft_lt hu (fe_mul (fe_mul (fe_var 5) (fe_var 5)) (fe_add (fe_var 0) (fe_mul (fe_sub (fe_var 2) fe_int) (fe_var 1)))) (fe_var 3)) (fs_one (fs_set 5 (fe_add (fe_var 5) fe_int))))
  (fs_one (fs_ret (fe_var 5))))))
/-! farthest -/
abbrev st_farthest : Stmt := topS 6
theorem sc_farthest : FnScope ["signs", "far", "total", "sign"] ["signs"] (defScope st_farthest) := ⟨rfl, rfl, rfl, by decide +kernel, rfl, by decide +kernel, by decide +kernel⟩
def s_farthest : SS Unit := (sSeq (sAsg (xTup (aCons (xC (.int 0)) (aCons (xC (.int 0)) aNil))) (tgP 1 2))
  (sSeq (sFor (iOf (xVar 0)) (tgN 3) (sSeq (sSet 2 (xBin fAdd (xVar 2) (xVar 3)))
  (sSet 1 (xCall fMax (aCons (xVar 1) (aCons (xCall fAbs (aCons (xVar 2) aNil)) aNil))))))
  (sRet (xVar 1))))
def f_farthest : List D → Option D := runP 4 s_farthest
theorem ok_farthest (T : Txt K mg) : FnOk P w K mg base CX0 1 T.a_farthest T.d_farthest ["signs"] (spP K 1 f_farthest) := by
  refine ok_P' (k := 0) (ψ := s_farthest) T.F_farthest sc_farthest rfl rfl rfl ?_
  intro A hr
  have hu := hu65 hr
  exact (fs_cons (fs_asg (fe_tup (fa_cons fe_int (fa_cons fe_int fa_nil))) (fg_p 1 2))
  (fs_cons (fs_for (fi_seq (fe_var 0)) (fg_n 3) (fs_cons (fs_set 2 (fe_add (fe_var 2) (fe_var 3)))
  (fs_one (fs_set 1 (fc_max hu T.z_max (fa_cons (fe_var 1) (fa_cons (fc_abs T.z_abs (fa_cons (fe_var 2) fa_nil)) fa_nil)))))))
  (fs_one (fs_ret (fe_var 1)))))
/-! end_worst -/
abbrev st_end_worst : Stmt := topS 7
theorem sc_end_worst : FnScope ["signs", "word", "n", "worst", "d"] ["signs", "word"] (defScope st_end_worst) := ⟨rfl, rfl, rfl, by decide +kernel, rfl, by decide +kernel, by decide +kernel⟩
def s_end_worst : SS Unit := (sSeq (sPar 2 3 (xCall fLen (aCons (xVar 0) aNil)) (xC (.int 1)))
  (sSeq (sFor (iBy rngF2 (aCons (xC (.int 1)) (aCons (xBin fAdd (xVar 2) (xC (.int 1))) aNil))) (tgN 4) (sIf (xTest (xBin fEq (xVar 1) (xC (.str "multiples")))) (sSet 3 (xCall fMax (aCons (xVar 3) (aCons (xIf (xTest (xBin fEq (xBin fMod (xVar 2) (xVar 4)) (xC (.int 0)))) (xCall fAbs (aCons (xCall fSum (aCons (xSliceS (xVar 0) (oSome (xBin fSub (xVar 4) (xC (.int 1)))) oNone (xVar 4)) aNil)) aNil)) (xC (.int 0))) aNil)))) (sSet 3 (xCall fMax (aCons (xVar 3) (aCons (xCall (lenIs 1 f_farthest) (aCons (xSliceS (xVar 0) oNone oNone (xUn fNeg (xVar 4))) aNil)) aNil))))))
  (sRet (xVar 3))))
def f_end_worst : List D → Option D := runP 5 s_end_worst
theorem ok_end_worst (T : Txt K mg) : FnOk P w K mg base CX0 2 T.a_end_worst T.d_end_worst ["signs", "word"] (spP K 2 f_end_worst) := by
  refine ok_P' (k := 1) (ψ := s_end_worst) T.F_end_worst sc_end_worst rfl rfl rfl ?_
  intro A hr
  have hu := hu65 hr
  exact (fs_cons (fs_par 2 3 (fa_cons (fc_len T.z_len (fa_cons (fe_var 0) fa_nil)) (fa_cons fe_int fa_nil)))
  (fs_cons (fs_for (fi_rng2 rfl T.z_range (fa_cons fe_int (fa_cons (fe_add (fe_var 2) fe_int) fa_nil))) (fg_n 4) (fs_one (fs_if (ft_eq hu (fe_var 1) fe_str) (fs_one (fs_set 3 (fc_max hu T.z_max (fa_cons (fe_var 3) (fa_cons (fe_if (ft_eq hu (fe_mod (fe_var 2) (fe_var 4)) fe_int) (fc_abs T.z_abs (fa_cons (fc_sum T.z_sum (fa_cons (fe_sliceS (fe_var 0) (fo_some (fe_sub (fe_var 4) fe_int)) fo_none (fe_var 4)) fa_nil)) fa_nil)) fe_int) fa_nil))))) (fs_one (fs_set 3 (fc_max hu T.z_max (fa_cons (fe_var 3) (fa_cons (fe_fun (ok_farthest T) (hr.mono (by decide)) (by rfl) T.m_farthest T.F_farthest.kp T.b_farthest (fa_cons (fe_sliceS (fe_var 0) fo_none fo_none (fe_neg (fe_var 4))) fa_nil)) fa_nil))))))))
  (fs_one (fs_ret (fe_var 3)))))
/-! beginnings -/
abbrev st_beginnings : Stmt := topS 8
theorem sc_beginnings : FnScope ["n", "word", "c", "ahead", "own", "sign"] ["n", "word", "c"] (defScope st_beginnings) := ⟨rfl, rfl, rfl, by decide +kernel, rfl, by decide +kernel, by decide +kernel⟩
def s_beginnings : SS Unit := (sSeq (sSetL 3 (lDisp (aCons (xTup aNil) aNil)))
  (sSeq (sWhile (xBorT 3 (xTest (xBin fNe (xVar 3) (xLst (lDisp aNil))))) (sSeq (sSetP 4 (xPop 3))
  (sSeq (sIf (xTest (xBin fEq (xCall fLen (aCons (xVar 4) aNil)) (xVar 0))) (sRet (xVar 4)) sNil)
  (sFor (iOf (xTup (aCons (xC (.int 1)) (aCons (xUn fNeg (xC (.int 1))) aNil)))) (tgN 5) (sIf (xTest (xBin fLe (xCall (lenIs 2 f_end_worst) (aCons (xBin fAdd (xVar 4) (xTup (aCons (xVar 5) aNil))) (aCons (xVar 1) aNil))) (xVar 2))) (sApp 3 (xBin fAdd (xVar 4) (xTup (aCons (xVar 5) aNil)))) sNil)))) 100000)
  (sRet (xC .none))))
def f_beginnings : List D → Option D := runP 6 s_beginnings
theorem ok_beginnings (T : Txt K mg) : FnOk P w K mg base CX0 3 T.a_beginnings T.d_beginnings ["n", "word", "c"] (spP K 3 f_beginnings) := by
  refine ok_P' (k := 2) (ψ := s_beginnings) T.F_beginnings sc_beginnings rfl rfl rfl ?_
  intro A hr
  have hu := hu65 hr
  exact (fs_cons (fs_setL 3 (fl_disp (fa_cons (fe_tup fa_nil) fa_nil)))
  (fs_cons (fs_while 100000 (ft_borrow 3 (ft_ne hu (fe_var 3) (fe_L (fl_disp fa_nil)))) (fs_cons (fs_setP 4 (fp_pop 3))
  (fs_cons (fs_if (ft_eq hu (fc_len T.z_len (fa_cons (fe_var 4) fa_nil)) (fe_var 0)) (fs_one (fs_ret (fe_var 4))) fs_nil)
  (fs_one (fs_for (fi_seq (fe_tup (fa_cons fe_int (fa_cons (fe_neg fe_int) fa_nil)))) (fg_n 5) (fs_one (fs_if (ft_le hu (fe_fun (ok_end_worst T) (hr.mono (by decide)) (by rfl) T.m_end_worst T.F_end_worst.kp T.b_end_worst (fa_cons (fe_add (fe_var 4) (fe_tup (fa_cons (fe_var 5) fa_nil))) (fa_cons (fe_var 1) fa_nil))) (fe_var 2)) (fs_one (fs_app 3 (fa_cons (fe_add (fe_var 4) (fe_tup (fa_cons (fe_var 5) fa_nil))) fa_nil))) fs_nil)))))))
  (fs_one (fs_ret fe_non))))
/-! least_spaced -/
abbrev st_least_spaced : Stmt := topS 9
theorem sc_least_spaced : FnScope ["n", "word", "c"] ["n", "word"] (defScope st_least_spaced) := ⟨rfl, rfl, rfl, by decide +kernel, rfl, by decide +kernel, by decide +kernel⟩
def s_least_spaced : SS Unit := (sSeq (sSet 2 (xC (.int 0)))
  (sSeq (sWhile (xTest (xBin fIs (xCall (lenIs 3 f_beginnings) (aCons (xVar 0) (aCons (xVar 1) (aCons (xVar 2) aNil)))) (xC .none))) (sSet 2 (xBin fAdd (xVar 2) (xC (.int 1)))) 100000)
  (sRet (xVar 2))))
def f_least_spaced : List D → Option D := runP 3 s_least_spaced
theorem ok_least_spaced (T : Txt K mg) : FnOk P w K mg base CX0 4 T.a_least_spaced T.d_least_spaced ["n", "word"] (spP K 2 f_least_spaced) := by
  refine ok_P' (k := 3) (ψ := s_least_spaced) T.F_least_spaced sc_least_spaced rfl rfl rfl ?_
  intro A hr
  have hu := hu65 hr
  exact (fs_cons (fs_set 2 fe_int)
  (fs_cons (fs_while 100000 (ft_is (fe_fun (ok_beginnings T) (hr.mono (by decide)) (by rfl) T.m_beginnings T.F_beginnings.kp T.b_beginnings (fa_cons (fe_var 0) (fa_cons (fe_var 1) (fa_cons (fe_var 2) fa_nil)))) fe_non) (fs_one (fs_set 2 (fe_add (fe_var 2) fe_int))))
  (fs_one (fs_ret (fe_var 2)))))
/-! _law_pick -/
abbrev st__law_pick : Stmt := topS 13
theorem sc__law_pick : FnScope ["deck", "row"] ["deck", "row"] (defScope st__law_pick) := ⟨rfl, rfl, rfl, by decide +kernel, rfl, by decide +kernel, by decide +kernel⟩
def s__law_pick : SS PotS := (sRet (xBin fIx (xVar 1) (xFunZ 2 0 f__law_draw (aCons (xCall fLen (aCons (xVar 1) aNil)) aNil))))
def f__law_pick : List D → PotS → Option (D × PotS) := runZ 2 s__law_pick
theorem ok__law_pick (T : Txt K mg) : FnOk P w K mg base CX0 2 T.a__law_pick T.d__law_pick ["deck", "row"] (spZ K ZC 2 f__law_pick) := by
  refine ok_Z' (k := 1) (ψ := s__law_pick) T.F__law_pick sc__law_pick rfl rfl rfl ?_
  intro A hr
  have hu := hu65 hr
  exact (fs_one (fs_ret (fe_ix (fe_var 1) (fe_funZ 0 (ok__law_draw T) (hr.mono (by decide)) (by rfl) T.m__law_draw T.F__law_draw.kp T.b__law_draw (fa_cons (fc_len T.z_len (fa_cons (fe_var 1) fa_nil)) fa_nil)))))
/-! _law_signs -/
abbrev st__law_signs : Stmt := topS 14
theorem sc__law_signs : FnScope ["deck", "many", "place"] ["deck", "many"] (defScope st__law_signs) := ⟨rfl, rfl, rfl, by decide +kernel, rfl, by decide +kernel, by decide +kernel⟩
def s__law_signs : SS PotS := (sRet (xCall fTuple (aCons (xLst (lComp [2] (iBy rngF1 (aCons (xVar 1) aNil)) (tgN 2) xYes (xBin fSub (xC (.int 1)) (xBin fMul (xC (.int 2)) (xFunZ 2 0 f__law_draw (aCons (xC (.int 2)) aNil)))))) aNil)))
def f__law_signs : List D → PotS → Option (D × PotS) := runZ 3 s__law_signs
theorem ok__law_signs (T : Txt K mg) : FnOk P w K mg base CX0 2 T.a__law_signs T.d__law_signs ["deck", "many"] (spZ K ZC 2 f__law_signs) := by
  refine ok_Z' (k := 1) (ψ := s__law_signs) T.F__law_signs sc__law_signs rfl rfl rfl ?_
  intro A hr
  have hu := hu65 hr
  exact (fs_one (fs_ret (fc_tuple T.z_tuple (fa_cons (fe_L (fl_lc [("place", 2)] (hi := (fi_rng1 rfl T.z_range (fa_cons (fe_var 1) fa_nil))) (hg := (fgc_n 2)) (ht := fts_nil) (he := (fe_sub fe_int (fe_mul fe_int (fe_funZ 0 (ok__law_draw T) (hr.mono (by decide)) (by rfl) T.m__law_draw T.F__law_draw.kp T.b__law_draw (fa_cons fe_int fa_nil))))))) fa_nil))))
/-! _law_worst -/
abbrev st__law_worst : Stmt := topS 15
theorem sc__law_worst : FnScope ["signs", "word", "n", "worst", "d", "lows", "low", "here", "high", "deep", "place"] ["signs", "word"] (defScope st__law_worst) := ⟨rfl, rfl, rfl, by decide +kernel, rfl, by decide +kernel, by decide +kernel⟩
def s__law_worst : SS Unit := (sSeq (sPar 2 3 (xCall fLen (aCons (xVar 0) aNil)) (xC (.int 0)))
  (sSeq (sFor (iBy rngF2 (aCons (xC (.int 1)) (aCons (xBin fAdd (xVar 2) (xC (.int 1))) aNil))) (tgN 4) (sSeq (sSet 5 (xIf (xTest (xBin fEq (xVar 1) (xC (.str "spaced")))) (xLst (lRng (xVar 4))) (xLst (lDisp (aCons (xBin fSub (xVar 4) (xC (.int 1))) aNil)))))
  (sFor (iOf (xVar 5)) (tgN 6) (sSeq (sAsg (xTup (aCons (xC (.int 0)) (aCons (xC (.int 0)) (aCons (xC (.int 0)) aNil)))) (tgT3 7 8 9))
  (sSeq (sFor (iBy rngF3 (aCons (xVar 6) (aCons (xVar 2) (aCons (xVar 4) aNil)))) (tgN 10) (sSeq (sSet 7 (xBin fAdd (xVar 7) (xBin fIx (xVar 0) (xVar 10))))
  (sPar 8 9 (xCall fMax (aCons (xVar 8) (aCons (xVar 7) aNil))) (xCall fMin (aCons (xVar 9) (aCons (xVar 7) aNil))))))
  (sSet 3 (xCall fMax (aCons (xVar 3) (aCons (xIf (xTest (xBin fEq (xVar 1) (xC (.str "spaced")))) (xBin fSub (xVar 8) (xVar 9)) (xCall fMax (aCons (xVar 8) (aCons (xUn fNeg (xVar 9)) aNil)))) aNil)))))))))
  (sRet (xVar 3))))
def f__law_worst : List D → Option D := runP 11 s__law_worst
theorem ok__law_worst (T : Txt K mg) : FnOk P w K mg base CX0 1 T.a__law_worst T.d__law_worst ["signs", "word"] (spP K 2 f__law_worst) := by
  refine ok_P' (k := 0) (ψ := s__law_worst) T.F__law_worst sc__law_worst rfl rfl rfl ?_
  intro A hr
  have hu := hu65 hr
  exact (fs_cons (fs_par 2 3 (fa_cons (fc_len T.z_len (fa_cons (fe_var 0) fa_nil)) (fa_cons fe_int fa_nil)))
  (fs_cons (fs_for (fi_rng2 rfl T.z_range (fa_cons fe_int (fa_cons (fe_add (fe_var 2) fe_int) fa_nil))) (fg_n 4) (fs_cons (fs_set 5 (fe_if (ft_eq hu (fe_var 1) fe_str) (fe_L (fl_listRng T.z_list T.z_range (fe_var 4))) (fe_L (fl_disp (fa_cons (fe_sub (fe_var 4) fe_int) fa_nil)))))
  (fs_one (fs_for (fi_seq (fe_var 5)) (fg_n 6) (fs_cons (fs_asg (fe_tup (fa_cons fe_int (fa_cons fe_int (fa_cons fe_int fa_nil)))) (fg_t3 7 8 9))
  (fs_cons (fs_for (fi_rng3 rfl T.z_range (fa_cons (fe_var 6) (fa_cons (fe_var 2) (fa_cons (fe_var 4) fa_nil)))) (fg_n 10) (fs_cons (fs_set 7 (fe_add (fe_var 7) (fe_ix (fe_var 0) (fe_var 10))))
  (fs_one (fs_par 8 9 (fa_cons (fc_max hu T.z_max (fa_cons (fe_var 8) (fa_cons (fe_var 7) fa_nil))) (fa_cons (fc_min hu T.z_min (fa_cons (fe_var 9) (fa_cons (fe_var 7) fa_nil))) fa_nil))))))
  (fs_one (fs_set 3 (fc_max hu T.z_max (fa_cons (fe_var 3) (fa_cons (fe_if (ft_eq hu (fe_var 1) fe_str) (fe_sub (fe_var 8) (fe_var 9)) (fc_max hu T.z_max (fa_cons (fe_var 8) (fa_cons (fe_neg (fe_var 9)) fa_nil)))) fa_nil)))))))))))
  (fs_one (fs_ret (fe_var 3)))))
/-! _law_alike -/
abbrev st__law_alike : Stmt := topS 16
theorem sc__law_alike : FnScope ["signs", "m", "a", "b"] ["signs", "m"] (defScope st__law_alike) := ⟨rfl, rfl, rfl, by decide +kernel, rfl, by decide +kernel, by decide +kernel⟩
def s__law_alike : SS Unit := (sRet (xCall fSum (aCons (xLst (lComp [2, 3] (iBy zipFA (aCons (xVar 0) (aCons (xSliceP (xVar 0) (oSome (xVar 1)) oNone) aNil))) (tgP 2 3) xYes (xBin fMul (xVar 2) (xVar 3)))) aNil)))
def f__law_alike : List D → Option D := runP 4 s__law_alike
theorem ok__law_alike (T : Txt K mg) : FnOk P w K mg base CX0 1 T.a__law_alike T.d__law_alike ["signs", "m"] (spP K 2 f__law_alike) := by
  refine ok_P' (k := 0) (ψ := s__law_alike) T.F__law_alike sc__law_alike rfl rfl rfl ?_
  intro A hr
  have hu := hu65 hr
  exact (fs_one (fs_ret (fc_sum T.z_sum (fa_cons (fe_L (fl_lc [("a", 2), ("b", 3)] (hi := (fi_zipA rfl T.z_zip (fa_cons (fe_var 0) (fa_cons (fe_sliceP (fe_var 0) (fo_some (fe_var 1)) fo_none) fa_nil)))) (hg := (fgc_p 2 3)) (ht := fts_nil) (he := (fe_mul (fe_var 2) (fe_var 3))))) fa_nil))))
/-! _law_squares -/
abbrev st__law_squares : Stmt := topS 17
theorem sc__law_squares : FnScope ["signs", "d", "m", "total", "j"] ["signs", "d", "m"] (defScope st__law_squares) := ⟨rfl, rfl, rfl, by decide +kernel, rfl, by decide +kernel, by decide +kernel⟩
def s__law_squares : SS Unit := (sSeq (sSet 3 (xBin fMul (xVar 2) (xCall fLen (aCons (xVar 0) aNil))))
  (sSeq (sFor (iBy rngF2 (aCons (xC (.int 1)) (aCons (xCall fMin (aCons (xVar 2) (aCons (xCall fLen (aCons (xVar 0) aNil)) aNil))) aNil))) (tgN 4) (sIf (xTest (xBin fLt (xBin fMul (xVar 4) (xVar 1)) (xCall fLen (aCons (xVar 0) aNil)))) (sSet 3 (xBin fAdd (xVar 3) (xBin fMul (xBin fMul (xC (.int 2)) (xBin fSub (xVar 2) (xVar 4))) (xCall (lenIs 2 f__law_alike) (aCons (xVar 0) (aCons (xBin fMul (xVar 4) (xVar 1)) aNil)))))) sNil))
  (sRet (xVar 3))))
def f__law_squares : List D → Option D := runP 5 s__law_squares
theorem ok__law_squares (T : Txt K mg) : FnOk P w K mg base CX0 2 T.a__law_squares T.d__law_squares ["signs", "d", "m"] (spP K 3 f__law_squares) := by
  refine ok_P' (k := 1) (ψ := s__law_squares) T.F__law_squares sc__law_squares rfl rfl rfl ?_
  intro A hr
  have hu := hu65 hr
  exact (fs_cons (fs_set 3 (fe_mul (fe_var 2) (fc_len T.z_len (fa_cons (fe_var 0) fa_nil))))
  (fs_cons (fs_for (fi_rng2 rfl T.z_range (fa_cons fe_int (fa_cons (fc_min hu T.z_min (fa_cons (fe_var 2) (fa_cons (fc_len T.z_len (fa_cons (fe_var 0) fa_nil)) fa_nil))) fa_nil))) (fg_n 4) (fs_one (fs_if (ft_lt hu (fe_mul (fe_var 4) (fe_var 1)) (fc_len T.z_len (fa_cons (fe_var 0) fa_nil))) (fs_one (fs_set 3 (fe_add (fe_var 3) (fe_mul (fe_mul fe_int (fe_sub (fe_var 2) (fe_var 4))) (fe_fun (ok__law_alike T) (hr.mono (by decide)) (by rfl) T.m__law_alike T.F__law_alike.kp T.b__law_alike (fa_cons (fe_var 0) (fa_cons (fe_mul (fe_var 4) (fe_var 1)) fa_nil))))))) fs_nil)))
  (fs_one (fs_ret (fe_var 3)))))
/-! _law_windows -/
abbrev st__law_windows : Stmt := topS 18
theorem sc__law_windows : FnScope ["signs", "d", "m", "n", "total", "a", "own", "k"] ["signs", "d", "m"] (defScope st__law_windows) := ⟨rfl, rfl, rfl, by decide +kernel, rfl, by decide +kernel, by decide +kernel⟩
def s__law_windows : SS Unit := (sSeq (sAsg (xTup (aCons (xCall fLen (aCons (xVar 0) aNil)) (aCons (xC (.int 0)) aNil))) (tgP 3 4))
  (sSeq (sFor (iBy rngF2 (aCons (xBin fMul (xUn fNeg (xBin fSub (xVar 2) (xC (.int 1)))) (xVar 1)) (aCons (xVar 3) aNil))) (tgN 5) (sSeq (sSet 6 (xCall fSum (aCons (xLst (lComp [7] (iBy rngF1 (aCons (xVar 2) aNil)) (tgN 7) (xTest (xChain fLe fLt (xC (.int 0)) (xBin fAdd (xVar 5) (xBin fMul (xVar 7) (xVar 1))) (xVar 3))) (xBin fIx (xVar 0) (xBin fAdd (xVar 5) (xBin fMul (xVar 7) (xVar 1)))))) aNil)))
  (sSet 4 (xBin fAdd (xVar 4) (xBin fMul (xVar 6) (xVar 6))))))
  (sRet (xVar 4))))
def f__law_windows : List D → Option D := runP 8 s__law_windows
theorem ok__law_windows (T : Txt K mg) : FnOk P w K mg base CX0 1 T.a__law_windows T.d__law_windows ["signs", "d", "m"] (spP K 3 f__law_windows) := by
  refine ok_P' (k := 0) (ψ := s__law_windows) T.F__law_windows sc__law_windows rfl rfl rfl ?_
  intro A hr
  have hu := hu65 hr
  exact (fs_cons (fs_asg (fe_tup (fa_cons (fc_len T.z_len (fa_cons (fe_var 0) fa_nil)) (fa_cons fe_int fa_nil))) (fg_p 3 4))
  (fs_cons (fs_for (fi_rng2 rfl T.z_range (fa_cons (fe_mul (fe_neg (fe_sub (fe_var 2) fe_int)) (fe_var 1)) (fa_cons (fe_var 3) fa_nil))) (fg_n 5) (fs_cons (fs_set 6 (fc_sum T.z_sum (fa_cons (fe_L (fl_lc [("k", 7)] (hi := (fi_rng1 rfl T.z_range (fa_cons (fe_var 2) fa_nil))) (hg := (fgc_n 7)) (ht := (fts_one (ft_chain (u_le hu) (u_lt hu) fe_int (fe_add (fe_var 5) (fe_mul (fe_var 7) (fe_var 1))) (fe_var 3)))) (he := (fe_ix (fe_var 0) (fe_add (fe_var 5) (fe_mul (fe_var 7) (fe_var 1))))))) fa_nil)))
  (fs_one (fs_set 4 (fe_add (fe_var 4) (fe_mul (fe_var 6) (fe_var 6)))))))
  (fs_one (fs_ret (fe_var 4)))))
/-! law -/
abbrev st_law : Stmt := topS 19
theorem sc_law : FnScope ["script", "deck", "turn", "n", "signs", "d", "m", "kept", "due", "told", "worst", "few", "least", "lot", "own", "place", "c"] ["script"] (defScope st_law) := ⟨rfl, rfl, rfl, by decide +kernel, rfl, by decide +kernel, by decide +kernel⟩
def s_law : SS PotS := (sSeq (sFor (iBy rngF1 (aCons (xC (.int 2)) aNil)) (tgN 2) (sSeq (sSet 3 (xBin fAdd (xC (.int 1)) (xFunZ 2 1 f__law_draw (aCons (xFunZ 2 1 f__law_pick (aCons (xLst (lDisp (aCons (xC (.int 6)) (aCons (xC (.int 20)) (aCons (xC (.int 60)) aNil))))) aNil)) aNil))))
  (sSeq (sPar3 4 5 6 (xFunZ 2 1 f__law_signs (aCons (xVar 3) aNil)) (xBin fAdd (xC (.int 1)) (xFunZ 2 1 f__law_draw (aCons (xFunZ 2 1 f__law_pick (aCons (xLst (lDisp (aCons (xC (.int 4)) (aCons (xC (.int 60)) aNil)))) aNil)) aNil))) (xFunZ 2 1 f__law_draw (aCons (xC (.int 61)) aNil)))
  (sSeq (sPar 7 8 (xCall fRepr (aCons (xVar 4) aNil)) (xCall (lenIs 2 f__law_alike) (aCons (xVar 4) (aCons (xVar 6) aNil))))
  (sSeq (sIf (xTest (xBin fNe (xCall fRepr (aCons (xLst (lDisp (aCons (xCall (lenIs 2 f_likeness) (aCons (xVar 4) (aCons (xVar 6) aNil))) (aCons (xCall (kwF 2 [1, 0] 2 f_likeness) (aCons (xVar 6) (aCons (xVar 4) aNil))) aNil)))) aNil)) (xCall fRepr (aCons (xLst (lDisp (aCons (xVar 8) (aCons (xVar 8) aNil)))) aNil)))) (sRet (xC (.bool false))) sNil)
  (sSeq (sSet 6 (xBin fAdd (xC (.int 1)) (xFunZ 2 1 f__law_draw (aCons (xFunZ 2 1 f__law_pick (aCons (xLst (lDisp (aCons (xC (.int 4)) (aCons (xC (.int 12)) (aCons (xC (.int 60)) aNil))))) aNil)) aNil))))
  (sSeq (sSet 8 (xCall (lenIs 3 f__law_squares) (aCons (xVar 4) (aCons (xVar 5) (aCons (xVar 6) aNil)))))
  (sSeq (sSet 9 (xLst (lDisp (aCons (xCall (lenIs 3 f_window_squares) (aCons (xVar 4) (aCons (xVar 5) (aCons (xVar 6) aNil)))) (aCons (xCall (kwF 3 [2, 1, 0] 3 f_window_squares) (aCons (xVar 6) (aCons (xVar 5) (aCons (xVar 4) aNil)))) aNil)))))
  (sSeq (sIf (xOr (xTest (xBin fNe (xCall fRepr (aCons (xVar 9) aNil)) (xCall fRepr (aCons (xLst (lDisp (aCons (xVar 8) (aCons (xVar 8) aNil)))) aNil)))) (xTest (xBin fNe (xCall fRepr (aCons (xVar 4) aNil)) (xVar 7)))) (sRet (xC (.bool false))) sNil)
  (sSeq (sSet 10 (xCall (lenIs 2 f__law_worst) (aCons (xVar 4) (aCons (xC (.str "spaced")) aNil))))
  (sSeq (sIf (xTest (xBin fGt (xVar 8) (xBin fMul (xBin fMul (xVar 10) (xVar 10)) (xBin fAdd (xVar 3) (xBin fMul (xBin fSub (xVar 6) (xC (.int 1))) (xVar 5)))))) (sRet (xC (.bool false))) sNil)
  (sSeq (sSet 11 (xSlice (xVar 4) oNone (oSome (xC (.int 9)))))
  (sSeq (sPar 5 6 (xBin fAdd (xC (.int 1)) (xFunZ 2 1 f__law_draw (aCons (xC (.int 3)) aNil))) (xBin fAdd (xC (.int 1)) (xFunZ 2 1 f__law_draw (aCons (xC (.int 4)) aNil))))
  (sIf (xTest (xBin fNe (xCall (lenIs 3 f_window_squares) (aCons (xVar 11) (aCons (xVar 5) (aCons (xVar 6) aNil)))) (xCall (lenIs 3 f__law_windows) (aCons (xVar 11) (aCons (xVar 5) (aCons (xVar 6) aNil)))))) (sRet (xC (.bool false))) sNil))))))))))))))
  (sSeq (sSet 3 (xBin fAdd (xC (.int 1)) (xFunZ 2 1 f__law_draw (aCons (xIf (xTest (xBin fEq (xFunZ 2 1 f__law_draw (aCons (xC (.int 5)) aNil)) (xC (.int 0)))) (xC (.int 8)) (xC (.int 6))) aNil))))
  (sSeq (sPar 5 6 (xBin fAdd (xC (.int 1)) (xFunZ 2 1 f__law_draw (aCons (xFunZ 2 1 f__law_pick (aCons (xLst (lDisp (aCons (xC (.int 3)) (aCons (xC (.int 60)) aNil)))) aNil)) aNil))) (xBin fAdd (xC (.int 1)) (xFunZ 2 1 f__law_draw (aCons (xFunZ 2 1 f__law_pick (aCons (xLst (lDisp (aCons (xC (.int 4)) (aCons (xC (.int 60)) aNil)))) aNil)) aNil))))
  (sSeq (sSet 12 (xC .none))
  (sSeq (sFor (iBy rngF1 (aCons (xBin fShl (xC (.int 1)) (xVar 3)) aNil)) (tgN 13) (sSeq (sSet 14 (xCall (lenIs 3 f__law_squares) (aCons (xLst (lComp [15] (iBy rngF1 (aCons (xVar 3) aNil)) (tgN 15) xYes (xBin fSub (xC (.int 1)) (xBin fMul (xC (.int 2)) (xBin fAnd (xBin fShr (xVar 13) (xVar 15)) (xC (.int 1))))))) (aCons (xVar 5) (aCons (xVar 6) aNil)))))
  (sSet 12 (xIf (xTest (xBin fIs (xVar 12) (xC .none))) (xVar 14) (xCall fMin (aCons (xVar 12) (aCons (xVar 14) aNil)))))))
  (sSeq (sSet 8 (xC (.int 0)))
  (sSeq (sFor (iBy rngF1 (aCons (xBin fAdd (xVar 3) (xC (.int 1))) aNil)) (tgN 16) (sSet 8 (xIf (xTest (xBin fLt (xBin fMul (xBin fMul (xVar 16) (xVar 16)) (xBin fAdd (xVar 3) (xBin fMul (xBin fSub (xVar 6) (xC (.int 1))) (xVar 5)))) (xVar 12))) (xBin fAdd (xVar 16) (xC (.int 1))) (xVar 8))))
  (sSeq (sIf (xTest (xBin fNe (xCall fRepr (aCons (xLst (lDisp (aCons (xCall (lenIs 3 f_squares_floor) (aCons (xVar 3) (aCons (xVar 5) (aCons (xVar 6) aNil)))) (aCons (xCall (kwF 3 [2, 1, 0] 3 f_squares_floor) (aCons (xVar 6) (aCons (xVar 5) (aCons (xVar 3) aNil)))) aNil)))) aNil)) (xCall fRepr (aCons (xLst (lDisp (aCons (xVar 8) (aCons (xVar 8) aNil)))) aNil)))) (sRet (xC (.bool false))) sNil)
  (sRet (xBin fLe (xVar 8) (xCall (lenIs 2 f_least_spaced) (aCons (xVar 3) (aCons (xC (.str "spaced")) aNil)))))))))))))
theorem ok_law (T : Txt K mg) {A : Around} (hr : Room 4 A) (hG : A.guards = some []) : FSs ⟨P, w, K, mg, base, A⟩ ["script", "deck", "turn", "n", "signs", "d", "m", "kept", "due", "told", "worst", "few", "least", "lot", "own", "place", "c"] (defScope st_law) ZC ((defBody st_law).drop 1) s_law := by
  have hu := hu65 hr
  exact (fs_cons (fs_for (fi_rng1 rfl T.z_range (fa_cons fe_int fa_nil)) (fg_n 2) (fs_cons (fs_set 3 (fe_add fe_int (fe_funZ 1 (ok__law_draw T) (hr.mono (by decide)) (by rfl) T.m__law_draw T.F__law_draw.kp T.b__law_draw (fa_cons (fe_funZ 1 (ok__law_pick T) (hr.mono (by decide)) (by rfl) T.m__law_pick T.F__law_pick.kp T.b__law_pick (fa_cons (fe_L (fl_disp (fa_cons fe_int (fa_cons fe_int (fa_cons fe_int fa_nil))))) fa_nil)) fa_nil))))
  (fs_cons (fs_par3 4 5 6 (fa_cons (fe_funZ 1 (ok__law_signs T) (hr.mono (by decide)) (by rfl) T.m__law_signs T.F__law_signs.kp T.b__law_signs (fa_cons (fe_var 3) fa_nil)) (fa_cons (fe_add fe_int (fe_funZ 1 (ok__law_draw T) (hr.mono (by decide)) (by rfl) T.m__law_draw T.F__law_draw.kp T.b__law_draw (fa_cons (fe_funZ 1 (ok__law_pick T) (hr.mono (by decide)) (by rfl) T.m__law_pick T.F__law_pick.kp T.b__law_pick (fa_cons (fe_L (fl_disp (fa_cons fe_int (fa_cons fe_int fa_nil)))) fa_nil)) fa_nil))) (fa_cons (fe_funZ 1 (ok__law_draw T) (hr.mono (by decide)) (by rfl) T.m__law_draw T.F__law_draw.kp T.b__law_draw (fa_cons fe_int fa_nil)) fa_nil))))
  (fs_cons (fs_par 7 8 (fa_cons (fc_repr hG hu T.z_repr (fa_cons (fe_var 4) fa_nil)) (fa_cons (fe_fun (ok__law_alike T) (hr.mono (by decide)) (by rfl) T.m__law_alike T.F__law_alike.kp T.b__law_alike (fa_cons (fe_var 4) (fa_cons (fe_var 6) fa_nil))) fa_nil)))
  (fs_cons (fs_if (ft_ne hu (fc_repr hG hu T.z_repr (fa_cons (fe_L (fl_disp (fa_cons (fe_fun (ok_likeness T) (hr.mono (by decide)) (by rfl) T.m_likeness T.F_likeness.kp T.b_likeness (fa_cons (fe_var 4) (fa_cons (fe_var 6) fa_nil))) (fa_cons (fe_funK (ok_likeness T) (hr.mono (by decide)) (by rfl) T.m_likeness T.F_likeness.kp T.k0_likeness (fk_cons (fe_var 6) (fk_cons (fe_var 4) fk_nil))) fa_nil)))) fa_nil)) (fc_repr hG hu T.z_repr (fa_cons (fe_L (fl_disp (fa_cons (fe_var 8) (fa_cons (fe_var 8) fa_nil)))) fa_nil))) (fs_one (fs_ret fe_bl)) fs_nil)
  (fs_cons (fs_set 6 (fe_add fe_int (fe_funZ 1 (ok__law_draw T) (hr.mono (by decide)) (by rfl) T.m__law_draw T.F__law_draw.kp T.b__law_draw (fa_cons (fe_funZ 1 (ok__law_pick T) (hr.mono (by decide)) (by rfl) T.m__law_pick T.F__law_pick.kp T.b__law_pick (fa_cons (fe_L (fl_disp (fa_cons fe_int (fa_cons fe_int (fa_cons fe_int fa_nil))))) fa_nil)) fa_nil))))
  (fs_cons (fs_set 8 (fe_fun (ok__law_squares T) (hr.mono (by decide)) (by rfl) T.m__law_squares T.F__law_squares.kp T.b__law_squares (fa_cons (fe_var 4) (fa_cons (fe_var 5) (fa_cons (fe_var 6) fa_nil)))))
  (fs_cons (fs_set 9 (fe_L (fl_disp (fa_cons (fe_fun (ok_window_squares T) (hr.mono (by decide)) (by rfl) T.m_window_squares T.F_window_squares.kp T.b_window_squares (fa_cons (fe_var 4) (fa_cons (fe_var 5) (fa_cons (fe_var 6) fa_nil)))) (fa_cons (fe_funK (ok_window_squares T) (hr.mono (by decide)) (by rfl) T.m_window_squares T.F_window_squares.kp T.k0_window_squares (fk_cons (fe_var 6) (fk_cons (fe_var 5) (fk_cons (fe_var 4) fk_nil)))) fa_nil)))))
  (fs_cons (fs_if (FW.t (fw_or (ft_ne hu (fc_repr hG hu T.z_repr (fa_cons (fe_var 9) fa_nil)) (fc_repr hG hu T.z_repr (fa_cons (fe_L (fl_disp (fa_cons (fe_var 8) (fa_cons (fe_var 8) fa_nil)))) fa_nil))) (fw_or1 (ft_ne hu (fc_repr hG hu T.z_repr (fa_cons (fe_var 4) fa_nil)) (fe_var 7))))) (fs_one (fs_ret fe_bl)) fs_nil)
  (fs_cons (fs_set 10 (fe_fun (ok__law_worst T) (hr.mono (by decide)) (by rfl) T.m__law_worst T.F__law_worst.kp T.b__law_worst (fa_cons (fe_var 4) (fa_cons fe_str fa_nil))))
  (fs_cons (fs_if (ft_gt hu (fe_var 8) (fe_mul (fe_mul (fe_var 10) (fe_var 10)) (fe_add (fe_var 3) (fe_mul (fe_sub (fe_var 6) fe_int) (fe_var 5))))) (fs_one (fs_ret fe_bl)) fs_nil)
  (fs_cons (fs_set 11 (fe_slice (fe_var 4) fo_none (fo_some fe_int)))
  (fs_cons (fs_par 5 6 (fa_cons (fe_add fe_int (fe_funZ 1 (ok__law_draw T) (hr.mono (by decide)) (by rfl) T.m__law_draw T.F__law_draw.kp T.b__law_draw (fa_cons fe_int fa_nil))) (fa_cons (fe_add fe_int (fe_funZ 1 (ok__law_draw T) (hr.mono (by decide)) (by rfl) T.m__law_draw T.F__law_draw.kp T.b__law_draw (fa_cons fe_int fa_nil))) fa_nil)))
  (fs_one (fs_if (ft_ne hu (fe_fun (ok_window_squares T) (hr.mono (by decide)) (by rfl) T.m_window_squares T.F_window_squares.kp T.b_window_squares (fa_cons (fe_var 11) (fa_cons (fe_var 5) (fa_cons (fe_var 6) fa_nil)))) (fe_fun (ok__law_windows T) (hr.mono (by decide)) (by rfl) T.m__law_windows T.F__law_windows.kp T.b__law_windows (fa_cons (fe_var 11) (fa_cons (fe_var 5) (fa_cons (fe_var 6) fa_nil))))) (fs_one (fs_ret fe_bl)) fs_nil)))))))))))))))
  (fs_cons (fs_set 3 (fe_add fe_int (fe_funZ 1 (ok__law_draw T) (hr.mono (by decide)) (by rfl) T.m__law_draw T.F__law_draw.kp T.b__law_draw (fa_cons (fe_if (ft_eq hu (fe_funZ 1 (ok__law_draw T) (hr.mono (by decide)) (by rfl) T.m__law_draw T.F__law_draw.kp T.b__law_draw (fa_cons fe_int fa_nil)) fe_int) fe_int fe_int) fa_nil))))
  (fs_cons (fs_par 5 6 (fa_cons (fe_add fe_int (fe_funZ 1 (ok__law_draw T) (hr.mono (by decide)) (by rfl) T.m__law_draw T.F__law_draw.kp T.b__law_draw (fa_cons (fe_funZ 1 (ok__law_pick T) (hr.mono (by decide)) (by rfl) T.m__law_pick T.F__law_pick.kp T.b__law_pick (fa_cons (fe_L (fl_disp (fa_cons fe_int (fa_cons fe_int fa_nil)))) fa_nil)) fa_nil))) (fa_cons (fe_add fe_int (fe_funZ 1 (ok__law_draw T) (hr.mono (by decide)) (by rfl) T.m__law_draw T.F__law_draw.kp T.b__law_draw (fa_cons (fe_funZ 1 (ok__law_pick T) (hr.mono (by decide)) (by rfl) T.m__law_pick T.F__law_pick.kp T.b__law_pick (fa_cons (fe_L (fl_disp (fa_cons fe_int (fa_cons fe_int fa_nil)))) fa_nil)) fa_nil))) fa_nil)))
  (fs_cons (fs_set 12 fe_non)
  (fs_cons (fs_for (fi_rng1 rfl T.z_range (fa_cons (fe_shl fe_int (fe_var 3)) fa_nil)) (fg_n 13) (fs_cons (fs_set 14 (fe_fun (ok__law_squares T) (hr.mono (by decide)) (by rfl) T.m__law_squares T.F__law_squares.kp T.b__law_squares (fa_cons (fe_L (fl_lc [("place", 15)] (hi := (fi_rng1 rfl T.z_range (fa_cons (fe_var 3) fa_nil))) (hg := (fgc_n 15)) (ht := fts_nil) (he := (fe_sub fe_int (fe_mul fe_int (fe_band (fe_shr (fe_var 13) (fe_var 15)) fe_int)))))) (fa_cons (fe_var 5) (fa_cons (fe_var 6) fa_nil)))))
  (fs_one (fs_set 12 (fe_if (ft_is (fe_var 12) fe_non) (fe_var 14) (fc_min hu T.z_min (fa_cons (fe_var 12) (fa_cons (fe_var 14) fa_nil))))))))
  (fs_cons (fs_set 8 fe_int)
  (fs_cons (fs_for (fi_rng1 rfl T.z_range (fa_cons (fe_add (fe_var 3) fe_int) fa_nil)) (fg_n 16) (fs_one (fs_set 8 (fe_if (ft_lt hu (fe_mul (fe_mul (fe_var 16) (fe_var 16)) (fe_add (fe_var 3) (fe_mul (fe_sub (fe_var 6) fe_int) (fe_var 5)))) (fe_var 12)) (fe_add (fe_var 16) fe_int) (fe_var 8)))))
  (fs_cons (fs_if (ft_ne hu (fc_repr hG hu T.z_repr (fa_cons (fe_L (fl_disp (fa_cons (fe_fun (ok_squares_floor T) (hr.mono (by decide)) (by rfl) T.m_squares_floor T.F_squares_floor.kp T.b_squares_floor (fa_cons (fe_var 3) (fa_cons (fe_var 5) (fa_cons (fe_var 6) fa_nil)))) (fa_cons (fe_funK (ok_squares_floor T) (hr.mono (by decide)) (by rfl) T.m_squares_floor T.F_squares_floor.kp T.k0_squares_floor (fk_cons (fe_var 6) (fk_cons (fe_var 5) (fk_cons (fe_var 3) fk_nil)))) fa_nil)))) fa_nil)) (fc_repr hG hu T.z_repr (fa_cons (fe_L (fl_disp (fa_cons (fe_var 8) (fa_cons (fe_var 8) fa_nil)))) fa_nil))) (fs_one (fs_ret fe_bl)) fs_nil)
  (fs_one (fs_ret (fe_le hu (fe_var 8) (fe_fun (ok_least_spaced T) (hr.mono (by decide)) (by rfl) T.m_least_spaced T.F_least_spaced.kp T.b_least_spaced (fa_cons (fe_var 3) (fa_cons fe_str fa_nil))))))))))))))
end
theorem all_mk {w : World} {K : PySem.W.Frag} {h : Heap} {mg : Str → Option Value} {fa : Addr} (X : K.In h) (G : h.Ns mainGlobals mg) (hfa : mg "law" = some (.ref fa))
    {a_likeness a_window_squares a_half_signs a_squares_floor a_farthest a_end_worst a_beginnings a_least_spaced a__law_deck a__law_draw a__law_pick a__law_signs a__law_worst a__law_alike a__law_squares a__law_windows a_law : Addr} {od_likeness an_likeness od_window_squares an_window_squares od_half_signs an_half_signs od_squares_floor an_squares_floor od_farthest an_farthest od_end_worst an_end_worst od_beginnings an_beginnings od_least_spaced an_least_spaced od__law_deck an__law_deck od__law_draw an__law_draw od__law_pick an__law_pick od__law_signs an__law_signs od__law_worst an__law_worst od__law_alike an__law_alike od__law_squares an__law_squares od__law_windows an__law_windows od_law an_law : Option Addr} {sl_likeness sl_window_squares sl_half_signs sl_squares_floor sl_farthest sl_end_worst sl_beginnings sl_least_spaced sl__law_deck sl__law_draw sl__law_pick sl__law_signs sl__law_worst sl__law_alike sl__law_squares sl__law_windows sl_law : Array (Option Value)}
    {oc_likeness kV_likeness dc_likeness pm_likeness cd_likeness ct_likeness oc_window_squares kV_window_squares dc_window_squares pm_window_squares cd_window_squares ct_window_squares oc_half_signs kV_half_signs dc_half_signs pm_half_signs cd_half_signs ct_half_signs oc_squares_floor kV_squares_floor dc_squares_floor pm_squares_floor cd_squares_floor ct_squares_floor oc_farthest kV_farthest dc_farthest pm_farthest cd_farthest ct_farthest oc_end_worst kV_end_worst dc_end_worst pm_end_worst cd_end_worst ct_end_worst oc_beginnings kV_beginnings dc_beginnings pm_beginnings cd_beginnings ct_beginnings oc_least_spaced kV_least_spaced dc_least_spaced pm_least_spaced cd_least_spaced ct_least_spaced oc__law_deck kV__law_deck dc__law_deck pm__law_deck cd__law_deck ct__law_deck oc__law_draw kV__law_draw dc__law_draw pm__law_draw cd__law_draw ct__law_draw oc__law_pick kV__law_pick dc__law_pick pm__law_pick cd__law_pick ct__law_pick oc__law_signs kV__law_signs dc__law_signs pm__law_signs cd__law_signs ct__law_signs oc__law_worst kV__law_worst dc__law_worst pm__law_worst cd__law_worst ct__law_worst oc__law_alike kV__law_alike dc__law_alike pm__law_alike cd__law_alike ct__law_alike oc__law_squares kV__law_squares dc__law_squares pm__law_squares cd__law_squares ct__law_squares oc__law_windows kV__law_windows dc__law_windows pm__law_windows cd__law_windows ct__law_windows oc_law kV_law dc_law pm_law cd_law ct_law : Value}
    (n_likeness : PySem.W.nsIn K mainGlobals "likeness" = some (some (.ref a_likeness))) (l_likeness : K.lookup a_likeness = some ⟨oc_likeness, od_likeness, .func (PySem.W.fnOf "likeness" "likeness" (defArgs (topS 1)) (defBody (topS 1)) (defScope (topS 1)) .none kV_likeness dc_likeness pm_likeness an_likeness cd_likeness ct_likeness), sl_likeness⟩) (c_likeness : PySem.W.codeIn K cd_likeness "likeness" = true) (k_likeness : PySem.W.keepIn K (.ref a_likeness) = true)
    (n_window_squares : PySem.W.nsIn K mainGlobals "window_squares" = some (some (.ref a_window_squares))) (l_window_squares : K.lookup a_window_squares = some ⟨oc_window_squares, od_window_squares, .func (PySem.W.fnOf "window_squares" "window_squares" (defArgs (topS 2)) (defBody (topS 2)) (defScope (topS 2)) .none kV_window_squares dc_window_squares pm_window_squares an_window_squares cd_window_squares ct_window_squares), sl_window_squares⟩) (c_window_squares : PySem.W.codeIn K cd_window_squares "window_squares" = true) (k_window_squares : PySem.W.keepIn K (.ref a_window_squares) = true)
    (n_half_signs : PySem.W.nsIn K mainGlobals "half_signs" = some (some (.ref a_half_signs))) (l_half_signs : K.lookup a_half_signs = some ⟨oc_half_signs, od_half_signs, .func (PySem.W.fnOf "half_signs" "half_signs" (defArgs (topS 3)) (defBody (topS 3)) (defScope (topS 3)) .none kV_half_signs dc_half_signs pm_half_signs an_half_signs cd_half_signs ct_half_signs), sl_half_signs⟩) (c_half_signs : PySem.W.codeIn K cd_half_signs "half_signs" = true) (k_half_signs : PySem.W.keepIn K (.ref a_half_signs) = true)
    (n_squares_floor : PySem.W.nsIn K mainGlobals "squares_floor" = some (some (.ref a_squares_floor))) (l_squares_floor : K.lookup a_squares_floor = some ⟨oc_squares_floor, od_squares_floor, .func (PySem.W.fnOf "squares_floor" "squares_floor" (defArgs (topS 4)) (defBody (topS 4)) (defScope (topS 4)) .none kV_squares_floor dc_squares_floor pm_squares_floor an_squares_floor cd_squares_floor ct_squares_floor), sl_squares_floor⟩) (c_squares_floor : PySem.W.codeIn K cd_squares_floor "squares_floor" = true) (k_squares_floor : PySem.W.keepIn K (.ref a_squares_floor) = true)
    (n_farthest : PySem.W.nsIn K mainGlobals "farthest" = some (some (.ref a_farthest))) (l_farthest : K.lookup a_farthest = some ⟨oc_farthest, od_farthest, .func (PySem.W.fnOf "farthest" "farthest" (defArgs (topS 6)) (defBody (topS 6)) (defScope (topS 6)) .none kV_farthest dc_farthest pm_farthest an_farthest cd_farthest ct_farthest), sl_farthest⟩) (c_farthest : PySem.W.codeIn K cd_farthest "farthest" = true) (k_farthest : PySem.W.keepIn K (.ref a_farthest) = true)
    (n_end_worst : PySem.W.nsIn K mainGlobals "end_worst" = some (some (.ref a_end_worst))) (l_end_worst : K.lookup a_end_worst = some ⟨oc_end_worst, od_end_worst, .func (PySem.W.fnOf "end_worst" "end_worst" (defArgs (topS 7)) (defBody (topS 7)) (defScope (topS 7)) .none kV_end_worst dc_end_worst pm_end_worst an_end_worst cd_end_worst ct_end_worst), sl_end_worst⟩) (c_end_worst : PySem.W.codeIn K cd_end_worst "end_worst" = true) (k_end_worst : PySem.W.keepIn K (.ref a_end_worst) = true)
    (n_beginnings : PySem.W.nsIn K mainGlobals "beginnings" = some (some (.ref a_beginnings))) (l_beginnings : K.lookup a_beginnings = some ⟨oc_beginnings, od_beginnings, .func (PySem.W.fnOf "beginnings" "beginnings" (defArgs (topS 8)) (defBody (topS 8)) (defScope (topS 8)) .none kV_beginnings dc_beginnings pm_beginnings an_beginnings cd_beginnings ct_beginnings), sl_beginnings⟩) (c_beginnings : PySem.W.codeIn K cd_beginnings "beginnings" = true) (k_beginnings : PySem.W.keepIn K (.ref a_beginnings) = true)
    (n_least_spaced : PySem.W.nsIn K mainGlobals "least_spaced" = some (some (.ref a_least_spaced))) (l_least_spaced : K.lookup a_least_spaced = some ⟨oc_least_spaced, od_least_spaced, .func (PySem.W.fnOf "least_spaced" "least_spaced" (defArgs (topS 9)) (defBody (topS 9)) (defScope (topS 9)) .none kV_least_spaced dc_least_spaced pm_least_spaced an_least_spaced cd_least_spaced ct_least_spaced), sl_least_spaced⟩) (c_least_spaced : PySem.W.codeIn K cd_least_spaced "least_spaced" = true) (k_least_spaced : PySem.W.keepIn K (.ref a_least_spaced) = true)
    (n__law_deck : PySem.W.nsIn K mainGlobals "_law_deck" = some (some (.ref a__law_deck))) (l__law_deck : K.lookup a__law_deck = some ⟨oc__law_deck, od__law_deck, .func (PySem.W.fnOf "_law_deck" "_law_deck" (defArgs (topS 11)) (defBody (topS 11)) (defScope (topS 11)) .none kV__law_deck dc__law_deck pm__law_deck an__law_deck cd__law_deck ct__law_deck), sl__law_deck⟩) (c__law_deck : PySem.W.codeIn K cd__law_deck "_law_deck" = true) (k__law_deck : PySem.W.keepIn K (.ref a__law_deck) = true)
    (n__law_draw : PySem.W.nsIn K mainGlobals "_law_draw" = some (some (.ref a__law_draw))) (l__law_draw : K.lookup a__law_draw = some ⟨oc__law_draw, od__law_draw, .func (PySem.W.fnOf "_law_draw" "_law_draw" (defArgs (topS 12)) (defBody (topS 12)) (defScope (topS 12)) .none kV__law_draw dc__law_draw pm__law_draw an__law_draw cd__law_draw ct__law_draw), sl__law_draw⟩) (c__law_draw : PySem.W.codeIn K cd__law_draw "_law_draw" = true) (k__law_draw : PySem.W.keepIn K (.ref a__law_draw) = true)
    (n__law_pick : PySem.W.nsIn K mainGlobals "_law_pick" = some (some (.ref a__law_pick))) (l__law_pick : K.lookup a__law_pick = some ⟨oc__law_pick, od__law_pick, .func (PySem.W.fnOf "_law_pick" "_law_pick" (defArgs (topS 13)) (defBody (topS 13)) (defScope (topS 13)) .none kV__law_pick dc__law_pick pm__law_pick an__law_pick cd__law_pick ct__law_pick), sl__law_pick⟩) (c__law_pick : PySem.W.codeIn K cd__law_pick "_law_pick" = true) (k__law_pick : PySem.W.keepIn K (.ref a__law_pick) = true)
    (n__law_signs : PySem.W.nsIn K mainGlobals "_law_signs" = some (some (.ref a__law_signs))) (l__law_signs : K.lookup a__law_signs = some ⟨oc__law_signs, od__law_signs, .func (PySem.W.fnOf "_law_signs" "_law_signs" (defArgs (topS 14)) (defBody (topS 14)) (defScope (topS 14)) .none kV__law_signs dc__law_signs pm__law_signs an__law_signs cd__law_signs ct__law_signs), sl__law_signs⟩) (c__law_signs : PySem.W.codeIn K cd__law_signs "_law_signs" = true) (k__law_signs : PySem.W.keepIn K (.ref a__law_signs) = true)
    (n__law_worst : PySem.W.nsIn K mainGlobals "_law_worst" = some (some (.ref a__law_worst))) (l__law_worst : K.lookup a__law_worst = some ⟨oc__law_worst, od__law_worst, .func (PySem.W.fnOf "_law_worst" "_law_worst" (defArgs (topS 15)) (defBody (topS 15)) (defScope (topS 15)) .none kV__law_worst dc__law_worst pm__law_worst an__law_worst cd__law_worst ct__law_worst), sl__law_worst⟩) (c__law_worst : PySem.W.codeIn K cd__law_worst "_law_worst" = true) (k__law_worst : PySem.W.keepIn K (.ref a__law_worst) = true)
    (n__law_alike : PySem.W.nsIn K mainGlobals "_law_alike" = some (some (.ref a__law_alike))) (l__law_alike : K.lookup a__law_alike = some ⟨oc__law_alike, od__law_alike, .func (PySem.W.fnOf "_law_alike" "_law_alike" (defArgs (topS 16)) (defBody (topS 16)) (defScope (topS 16)) .none kV__law_alike dc__law_alike pm__law_alike an__law_alike cd__law_alike ct__law_alike), sl__law_alike⟩) (c__law_alike : PySem.W.codeIn K cd__law_alike "_law_alike" = true) (k__law_alike : PySem.W.keepIn K (.ref a__law_alike) = true)
    (n__law_squares : PySem.W.nsIn K mainGlobals "_law_squares" = some (some (.ref a__law_squares))) (l__law_squares : K.lookup a__law_squares = some ⟨oc__law_squares, od__law_squares, .func (PySem.W.fnOf "_law_squares" "_law_squares" (defArgs (topS 17)) (defBody (topS 17)) (defScope (topS 17)) .none kV__law_squares dc__law_squares pm__law_squares an__law_squares cd__law_squares ct__law_squares), sl__law_squares⟩) (c__law_squares : PySem.W.codeIn K cd__law_squares "_law_squares" = true) (k__law_squares : PySem.W.keepIn K (.ref a__law_squares) = true)
    (n__law_windows : PySem.W.nsIn K mainGlobals "_law_windows" = some (some (.ref a__law_windows))) (l__law_windows : K.lookup a__law_windows = some ⟨oc__law_windows, od__law_windows, .func (PySem.W.fnOf "_law_windows" "_law_windows" (defArgs (topS 18)) (defBody (topS 18)) (defScope (topS 18)) .none kV__law_windows dc__law_windows pm__law_windows an__law_windows cd__law_windows ct__law_windows), sl__law_windows⟩) (c__law_windows : PySem.W.codeIn K cd__law_windows "_law_windows" = true) (k__law_windows : PySem.W.keepIn K (.ref a__law_windows) = true)
    (n_law : PySem.W.nsIn K mainGlobals "law" = some (some (.ref a_law))) (l_law : K.lookup a_law = some ⟨oc_law, od_law, .func (PySem.W.fnOf "law" "law" (defArgs (topS 19)) (defBody (topS 19)) (defScope (topS 19)) .none kV_law dc_law pm_law an_law cd_law ct_law), sl_law⟩) (c_law : PySem.W.codeIn K cd_law "law" = true) (k_law : PySem.W.keepIn K (.ref a_law) = true)
    (z_abs : PySem.W.nsIn K mainGlobals "abs" = some none)
    (z_int : PySem.W.nsIn K mainGlobals "int" = some none)
    (z_len : PySem.W.nsIn K mainGlobals "len" = some none)
    (z_list : PySem.W.nsIn K mainGlobals "list" = some none)
    (z_max : PySem.W.nsIn K mainGlobals "max" = some none)
    (z_min : PySem.W.nsIn K mainGlobals "min" = some none)
    (z_range : PySem.W.nsIn K mainGlobals "range" = some none)
    (z_repr : PySem.W.nsIn K mainGlobals "repr" = some none)
    (z_sum : PySem.W.nsIn K mainGlobals "sum" = some none)
    (z_tuple : PySem.W.nsIn K mainGlobals "tuple" = some none)
    (z_zip : PySem.W.nsIn K mainGlobals "zip" = some none)
    : ∃ fd : FuncData, (∀ (s : Shared) (v : Value), BindsTo s fd ⟨[v], []⟩ [("script", v)]) ∧ Fun K "law" "law" (topS 19) fa fd ∧ Nonempty (Txt K mg) := by
  have e := hfa.symm.trans (PySem.W.mg_of X G n_law)
  cases e
  refine ⟨_, fun s v => .of_eq rfl, fun_mk (st := topS 19) l_law c_law k_law, ⟨?_⟩⟩
  have F_likeness := fun_mk (st := topS 1) l_likeness c_likeness k_likeness
  have F_window_squares := fun_mk (st := topS 2) l_window_squares c_window_squares k_window_squares
  have F_half_signs := fun_mk (st := topS 3) l_half_signs c_half_signs k_half_signs
  have F_squares_floor := fun_mk (st := topS 4) l_squares_floor c_squares_floor k_squares_floor
  have F_farthest := fun_mk (st := topS 6) l_farthest c_farthest k_farthest
  have F_end_worst := fun_mk (st := topS 7) l_end_worst c_end_worst k_end_worst
  have F_beginnings := fun_mk (st := topS 8) l_beginnings c_beginnings k_beginnings
  have F_least_spaced := fun_mk (st := topS 9) l_least_spaced c_least_spaced k_least_spaced
  have F__law_deck := fun_mk (st := topS 11) l__law_deck c__law_deck k__law_deck
  have F__law_draw := fun_mk (st := topS 12) l__law_draw c__law_draw k__law_draw
  have F__law_pick := fun_mk (st := topS 13) l__law_pick c__law_pick k__law_pick
  have F__law_signs := fun_mk (st := topS 14) l__law_signs c__law_signs k__law_signs
  have F__law_worst := fun_mk (st := topS 15) l__law_worst c__law_worst k__law_worst
  have F__law_alike := fun_mk (st := topS 16) l__law_alike c__law_alike k__law_alike
  have F__law_squares := fun_mk (st := topS 17) l__law_squares c__law_squares k__law_squares
  have F__law_windows := fun_mk (st := topS 18) l__law_windows c__law_windows k__law_windows
  exact {
    a_likeness := a_likeness, d_likeness := _, F_likeness := F_likeness, m_likeness := PySem.W.mg_of X G n_likeness, b_likeness := F_likeness.binds fun _ _ _ _ _ _ us hl => match us, hl with | [_, _], _ => rfl,
    k0_likeness := kb_of (ks := ["m", "signs"]) (ix := [1, 0]) F_likeness (by decide) fun _ _ _ _ _ _ us hl => match us, hl with | [_, _], _ => rfl,
    a_window_squares := a_window_squares, d_window_squares := _, F_window_squares := F_window_squares, m_window_squares := PySem.W.mg_of X G n_window_squares, b_window_squares := F_window_squares.binds fun _ _ _ _ _ _ us hl => match us, hl with | [_, _, _], _ => rfl,
    k0_window_squares := kb_of (ks := ["m", "d", "signs"]) (ix := [2, 1, 0]) F_window_squares (by decide) fun _ _ _ _ _ _ us hl => match us, hl with | [_, _, _], _ => rfl,
    a_half_signs := a_half_signs, d_half_signs := _, F_half_signs := F_half_signs, m_half_signs := PySem.W.mg_of X G n_half_signs, b_half_signs := F_half_signs.binds fun _ _ _ _ _ _ us hl => match us, hl with | [_], _ => rfl,
    a_squares_floor := a_squares_floor, d_squares_floor := _, F_squares_floor := F_squares_floor, m_squares_floor := PySem.W.mg_of X G n_squares_floor, b_squares_floor := F_squares_floor.binds fun _ _ _ _ _ _ us hl => match us, hl with | [_, _, _], _ => rfl,
    k0_squares_floor := kb_of (ks := ["m", "d", "n"]) (ix := [2, 1, 0]) F_squares_floor (by decide) fun _ _ _ _ _ _ us hl => match us, hl with | [_, _, _], _ => rfl,
    a_farthest := a_farthest, d_farthest := _, F_farthest := F_farthest, m_farthest := PySem.W.mg_of X G n_farthest, b_farthest := F_farthest.binds fun _ _ _ _ _ _ us hl => match us, hl with | [_], _ => rfl,
    a_end_worst := a_end_worst, d_end_worst := _, F_end_worst := F_end_worst, m_end_worst := PySem.W.mg_of X G n_end_worst, b_end_worst := F_end_worst.binds fun _ _ _ _ _ _ us hl => match us, hl with | [_, _], _ => rfl,
    a_beginnings := a_beginnings, d_beginnings := _, F_beginnings := F_beginnings, m_beginnings := PySem.W.mg_of X G n_beginnings, b_beginnings := F_beginnings.binds fun _ _ _ _ _ _ us hl => match us, hl with | [_, _, _], _ => rfl,
    a_least_spaced := a_least_spaced, d_least_spaced := _, F_least_spaced := F_least_spaced, m_least_spaced := PySem.W.mg_of X G n_least_spaced, b_least_spaced := F_least_spaced.binds fun _ _ _ _ _ _ us hl => match us, hl with | [_, _], _ => rfl,
    a__law_deck := a__law_deck, d__law_deck := _, F__law_deck := F__law_deck, m__law_deck := PySem.W.mg_of X G n__law_deck, b__law_deck := F__law_deck.binds fun _ _ _ _ _ _ us hl => match us, hl with | [_], _ => rfl,
    a__law_draw := a__law_draw, d__law_draw := _, F__law_draw := F__law_draw, m__law_draw := PySem.W.mg_of X G n__law_draw, b__law_draw := F__law_draw.binds fun _ _ _ _ _ _ us hl => match us, hl with | [_, _], _ => rfl,
    a__law_pick := a__law_pick, d__law_pick := _, F__law_pick := F__law_pick, m__law_pick := PySem.W.mg_of X G n__law_pick, b__law_pick := F__law_pick.binds fun _ _ _ _ _ _ us hl => match us, hl with | [_, _], _ => rfl,
    a__law_signs := a__law_signs, d__law_signs := _, F__law_signs := F__law_signs, m__law_signs := PySem.W.mg_of X G n__law_signs, b__law_signs := F__law_signs.binds fun _ _ _ _ _ _ us hl => match us, hl with | [_, _], _ => rfl,
    a__law_worst := a__law_worst, d__law_worst := _, F__law_worst := F__law_worst, m__law_worst := PySem.W.mg_of X G n__law_worst, b__law_worst := F__law_worst.binds fun _ _ _ _ _ _ us hl => match us, hl with | [_, _], _ => rfl,
    a__law_alike := a__law_alike, d__law_alike := _, F__law_alike := F__law_alike, m__law_alike := PySem.W.mg_of X G n__law_alike, b__law_alike := F__law_alike.binds fun _ _ _ _ _ _ us hl => match us, hl with | [_, _], _ => rfl,
    a__law_squares := a__law_squares, d__law_squares := _, F__law_squares := F__law_squares, m__law_squares := PySem.W.mg_of X G n__law_squares, b__law_squares := F__law_squares.binds fun _ _ _ _ _ _ us hl => match us, hl with | [_, _, _], _ => rfl,
    a__law_windows := a__law_windows, d__law_windows := _, F__law_windows := F__law_windows, m__law_windows := PySem.W.mg_of X G n__law_windows, b__law_windows := F__law_windows.binds fun _ _ _ _ _ _ us hl => match us, hl with | [_, _, _], _ => rfl,
    z_abs := PySem.W.mg_none_of X G z_abs,
    z_int := PySem.W.mg_none_of X G z_int,
    z_len := PySem.W.mg_none_of X G z_len,
    z_list := PySem.W.mg_none_of X G z_list,
    z_max := PySem.W.mg_none_of X G z_max,
    z_min := PySem.W.mg_none_of X G z_min,
    z_range := PySem.W.mg_none_of X G z_range,
    z_repr := PySem.W.mg_none_of X G z_repr,
    z_sum := PySem.W.mg_none_of X G z_sum,
    z_tuple := PySem.W.mg_none_of X G z_tuple,
    z_zip := PySem.W.mg_none_of X G z_zip }
end Wk

namespace Wk
open PySem L2 FL
def sm {α : Type} (xs : List α) (f : α → Int) : Int := (xs.map f).sum
section
variable {α β : Type} {xs : List α} {ys : List β} {f g : α → Int}
theorem sm_nil : sm ([] : List α) f = 0 := rfl
theorem sm_cons {x : α} : sm (x :: xs) f = f x + sm xs f := by unfold sm; rw [List.map_cons, List.sum_cons]
theorem sm_app {ys : List α} : sm (xs ++ ys) f = sm xs f + sm ys f := by unfold sm; rw [List.map_append, List.sum_append]
theorem sm_add : sm xs (fun x => f x + g x) = sm xs f + sm xs g := by
  induction xs with
  | nil => rfl
  | cons x r ih => rw [sm_cons, sm_cons, sm_cons, ih]; omega
theorem sm_mul (c : Int) : sm xs (fun x => c * f x) = c * sm xs f := by
  induction xs with
  | nil => rw [sm_nil, sm_nil, Int.mul_zero]
  | cons x r ih => rw [sm_cons, sm_cons, ih, Int.mul_add]
theorem sm_congr (h : ∀ x ∈ xs, f x = g x) : sm xs f = sm xs g := by
  induction xs with
  | nil => rfl
  | cons x r ih => rw [sm_cons, sm_cons, ih fun y hy => h y (List.mem_cons_of_mem _ hy), h x List.mem_cons_self]
theorem sm_le (h : ∀ x ∈ xs, f x ≤ g x) : sm xs f ≤ sm xs g := by
  induction xs with
  | nil => exact Int.le_refl _
  | cons x r ih =>
    have h1 := ih fun y hy => h y (List.mem_cons_of_mem _ hy)
    have h2 := h x List.mem_cons_self
    rw [sm_cons, sm_cons]; omega
theorem sm_zero (h : ∀ x ∈ xs, f x = 0) : sm xs f = 0 := by
  induction xs with
  | nil => rfl
  | cons x r ih => rw [sm_cons, ih fun y hy => h y (List.mem_cons_of_mem _ hy), h x List.mem_cons_self]; rfl
theorem sm_swap {f : α → β → Int} : sm xs (fun x => sm ys (f x)) = sm ys (fun y => sm xs (fun x => f x y)) := by
  induction xs with
  | nil => rw [sm_nil, sm_zero]; intro y _; rfl
  | cons x r ih => rw [sm_cons, ih, ← sm_add]; exact sm_congr fun y _ => (sm_cons (f := fun x => f x y)).symm
theorem sm_sq : sm xs f * sm xs f = sm xs (fun x => sm xs (fun y => f x * f y)) := by
  have : ∀ zs : List α, sm zs f * sm xs f = sm zs (fun x => sm xs (fun y => f x * f y)) := fun zs => by
    induction zs with
    | nil => rw [sm_nil, sm_nil, Int.zero_mul]
    | cons z r ih => rw [sm_cons, sm_cons, Int.add_mul, ih, sm_mul]
  exact this xs
theorem sm_filter (c : α → Bool) : ((xs.filter c).map f).sum = sm xs (fun x => if c x = true then f x else 0) := by
  induction xs with
  | nil => rfl
  | cons x r ih =>
    rw [sm_cons, ← ih, List.filter_cons]
    split
    · rw [List.map_cons, List.sum_cons]
    · rw [Int.zero_add]
theorem sm_map {f : β → Int} {h : α → β} : sm (xs.map h) f = sm xs (fun x => f (h x)) := by unfold sm; rw [List.map_map]; rfl
end
theorem sm_snoc {α : Type} {f : α → Int} {pre : List α} {x : α} : sm (pre ++ [x]) f = sm pre f + f x := by
  rw [sm_app, sm_cons, sm_nil, Int.add_zero]
/-! sums over whole numbers from a to b -/
theorem rngI_suc {a b : Int} (h : a ≤ b) : rngI a (b + 1) = rngI a b ++ [b] := by
  unfold rngI
  rw [show (b + 1 - a).toNat = (b - a).toNat + 1 by omega, List.range_succ, List.map_append]
  congr 1
  show [a + (((b - a).toNat : Nat) : Int)] = [b]
  rw [show a + (((b - a).toNat : Nat) : Int) = b by omega]
theorem rngI_emp {a b : Int} (h : b ≤ a) : rngI a b = [] := by
  unfold rngI
  rw [show (b - a).toNat = 0 by omega]
  rfl
theorem sm_shift {f : Int → Int} {s : Int} : ∀ (k : Nat) (a : Int), sm (rngI a (a + k)) (fun x => f (x + s)) = sm (rngI (a + s) (a + s + k)) f
  | 0, a => by rw [rngI_emp (by omega), rngI_emp (by omega)]; rfl
  | k + 1, a => by
    rw [show a + ((k + 1 : Nat) : Int) = a + k + 1 by omega, show a + s + ((k + 1 : Nat) : Int) = a + s + k + 1 by omega, rngI_suc (by omega), rngI_suc (by omega), sm_snoc, sm_snoc, sm_shift k a]
    rw [show a + (k : Int) + s = a + s + k by omega]
theorem sm_split {f : Int → Int} : ∀ (k : Nat) (a b : Int), a ≤ b → sm (rngI a (b + k)) f = sm (rngI a b) f + sm (rngI b (b + k)) f
  | 0, a, b, h => by rw [show b + ((0 : Nat) : Int) = b by omega, rngI_emp (show b ≤ b by omega), sm_nil, Int.add_zero]
  | k + 1, a, b, h => by
    rw [show b + ((k + 1 : Nat) : Int) = b + k + 1 by omega, rngI_suc (by omega), rngI_suc (by omega), sm_snoc, sm_snoc, sm_split k a b h]
    omega
/-- f is nought outside 0 .. n - 1 -/
theorem sm_core {f : Int → Int} {n : Nat} {a b : Int} (ha : a ≤ 0) (hb : (n : Int) ≤ b) (hf : ∀ x, x < 0 ∨ (n : Int) ≤ x → f x = 0) : sm (rngI a b) f = sm (rngI 0 n) f := by
  have e1 : sm (rngI a b) f = sm (rngI a n) f + sm (rngI n b) f := by
    have := sm_split (f := f) (b - n).toNat a n (by omega)
    rwa [show (n : Int) + ((b - n).toNat : Nat) = b by omega] at this
  have e2 : sm (rngI a n) f = sm (rngI a 0) f + sm (rngI 0 n) f := by
    have := sm_split (f := f) n a 0 ha
    rwa [show (0 : Int) + (n : Nat) = n by omega] at this
  have z1 : sm (rngI n b) f = 0 := sm_zero fun x hx => hf x (.inr (rngI_mem.mp hx).1)
  have z2 : sm (rngI a 0) f = 0 := sm_zero fun x hx => hf x (.inl (rngI_mem.mp hx).2)
  rw [e1, e2, z1, z2]
  omega
/-! the sequence, nought outside -/
def zf (S : List Int) (i : Int) : Int := if 0 ≤ i then S.getD i.toNat 0 else 0
theorem zf_out {S : List Int} {i : Int} (h : i < 0 ∨ (S.length : Int) ≤ i) : zf S i = 0 := by
  unfold zf
  split
  · rw [List.getD_eq_getElem?_getD, List.getElem?_eq_none (by omega)]
    rfl
  · rfl
def cor (S : List Int) (j : Int) : Int := sm (rngI 0 S.length) fun b => zf S b * zf S (b + j)
/-- the window at a -/
def win (S : List Int) (d : Int) : Nat → Int → Int
  | 0, _ => 0
  | m + 1, a => win S d m a + zf S (a + m * d)
def sqC (S : List Int) (d : Int) : Nat → Int
  | 0 => 0
  | m + 1 => sqC S d m + cor S 0 + 2 * sm (rng m) fun k => cor S ((m - k) * d)
theorem win_sm (S : List Int) (d : Int) : ∀ (m : Nat) (a : Int), win S d m a = sm (rng m) fun k => zf S (a + k * d)
  | 0, a => rfl
  | m + 1, a => by
    show win S d m a + zf S (a + m * d) = _
    have e : rng (m + 1) = rng m ++ [(m : Int)] := by unfold rng; rw [List.range_succ, List.map_append]; rfl
    rw [win_sm S d m a, e, sm_snoc]
theorem cor_at {S : List Int} {M s t : Int} (h0 : 0 ≤ s) (h1 : s ≤ M) (h2 : s ≤ t) : sm (rngI (-M) S.length) (fun a => zf S (a + s) * zf S (a + t)) = cor S (t - s) := by
  have e : sm (rngI (-M) S.length) (fun a => zf S (a + s) * zf S (a + t)) = sm (rngI (-M) S.length) fun a => (fun b => zf S b * zf S (b + (t - s))) (a + s) := sm_congr fun a _ => by
    show _ = zf S (a + s) * zf S (a + s + (t - s))
    rw [show a + s + (t - s) = a + t by omega]
  have sh := sm_shift (f := fun b => zf S b * zf S (b + (t - s))) (s := s) (S.length + M.toNat) (-M)
  rw [show -M + ((S.length + M.toNat : Nat) : Int) = S.length by omega] at sh
  rw [e, sh]
  unfold cor
  refine sm_core (by omega) (by omega) fun x hx => ?_
  rw [zf_out hx, Int.zero_mul]
/-- the sum of the windows' squares -/
theorem win_sq {S : List Int} {d M : Int} (hd : 0 ≤ d) : ∀ m : Nat, ((m : Int) - 1) * d ≤ M → sm (rngI (-M) S.length) (fun a => win S d m a * win S d m a) = sqC S d m
  | 0, _ => sm_zero fun a _ => rfl
  | m + 1, h => by
    have hm : (m : Int) * d ≤ M := by rw [show (((m + 1 : Nat) : Int) - 1) = m by omega] at h; exact h
    have hM : 0 ≤ (m : Int) * d := Int.mul_nonneg (by omega) hd
    have ih := win_sq (S := S) hd m (Int.le_trans (by rw [Int.sub_mul]; omega) hm)
    have e : sm (rngI (-M) S.length) (fun a => win S d (m + 1) a * win S d (m + 1) a) = sm (rngI (-M) S.length) fun a => win S d m a * win S d m a + (zf S (a + m * d) * zf S (a + m * d) + 2 * (win S d m a * zf S (a + m * d))) := sm_congr fun a _ => by
      show (win S d m a + zf S (a + m * d)) * (win S d m a + zf S (a + m * d)) = _
      generalize win S d m a = x
      generalize zf S (a + m * d) = y
      rw [Int.add_mul, Int.mul_add, Int.mul_add, Int.mul_comm y x]
      omega
    rw [e, sm_add, sm_add, ih, sm_mul]
    show _ = sqC S d m + cor S 0 + 2 * sm (rng m) fun k => cor S ((m - k) * d)
    have e1 : sm (rngI (-M) S.length) (fun a => zf S (a + m * d) * zf S (a + m * d)) = cor S 0 := by
      rw [cor_at hM hm (Int.le_refl _), Int.sub_self]
    have e2 : sm (rngI (-M) S.length) (fun a => win S d m a * zf S (a + m * d)) = sm (rng m) fun k => cor S ((m - k) * d) := by
      have : ∀ a ∈ rngI (-M) S.length, win S d m a * zf S (a + m * d) = sm (rng m) fun k => zf S (a + k * d) * zf S (a + m * d) := fun a _ => by
        rw [win_sm, Int.mul_comm, ← sm_mul]
        exact sm_congr fun k _ => Int.mul_comm _ _
      rw [sm_congr this, sm_swap]
      refine sm_congr fun k hk => ?_
      have hk := rng_mem.mp hk
      have hkd : (k : Int) * d ≤ m * d := Int.mul_le_mul_of_nonneg_right (by omega) hd
      rw [cor_at (Int.mul_nonneg hk.1 hd) (Int.le_trans hkd hm) hkd, Int.sub_mul]
    rw [e1, e2]
    omega
/-- windows in a bound: their squares' sum -/
theorem win_bd {S : List Int} {d w : Int} {m : Nat} (hd : 0 ≤ d) (m1 : 1 ≤ m) (hw : ∀ a, ((win S d m a).natAbs : Int) ≤ w) : sqC S d m ≤ w * w * (S.length + ((m : Int) - 1) * d) := by
  have h0 : 0 ≤ ((m : Int) - 1) * d := Int.mul_nonneg (by omega) hd
  rw [← win_sq (S := S) (M := ((m : Int) - 1) * d) hd m (Int.le_refl _)]
  have h1 : sm (rngI (-(((m : Int) - 1) * d)) S.length) (fun a => win S d m a * win S d m a) ≤ sm (rngI (-(((m : Int) - 1) * d)) S.length) fun _ => w * w := sm_le fun a _ => by
    rw [← Int.natAbs_mul_self' (win S d m a)]
    exact Int.mul_le_mul (hw a) (hw a) (by omega) (by have := hw a; omega)
  have h2 : ∀ l : List Int, sm l (fun _ => w * w) = w * w * l.length := fun l => by
    induction l with
    | nil => rw [sm_nil]; simp
    | cons x r ih => rw [sm_cons, ih, List.length_cons, Int.natCast_succ, Int.mul_add, Int.mul_one]; omega
  rw [h2, rngI_len, show ((((S.length : Int) - -(((m : Int) - 1) * d)).toNat : Nat) : Int) = S.length + ((m : Int) - 1) * d by omega] at h1
  exact h1
end Wk

namespace Wk
open PySem L2 FL
local macro_rules | `(tactic| lk) => `(tactic| (try simp (config := { maxSteps := 3000000 }) (disch := (first | assumption | omega | (simp only [List.length_map, List.length_append, List.length_cons, List.length_nil, List.length_range, rng_len, rngI_len, idxG_len, List.length_take, List.length_drop, List.length_set, List.length_replicate, List.length_reverse, szL]; (first | done | omega)) | exact List.cons_ne_nil _ _ | exact sml rfl | rfl)) only [w_seq, w_set, w_fzS, fzS_o, fzS_v, fzS_u, fzS_p, fzS_s, w_setL, w_ret, w_retN, w_drop, w_sif, w_par, w_par3, w_parLE, w_parEL, w_parLL, w_asg, w_app, w_ext, w_put, w_snil, w_brk, w_cnt, w_for, w_var, w_c, w_bin, w_un, w_lbin, w_test, w_and, w_or, w_not, w_yes, w_if, w_ifL, w_andV, w_orV, w_notV, w_chain, w_nil, w_cons, w_tup, w_disp, w_L, w_call, w_lcall, w_iby, w_iof, w_lrng, w_onone, w_osome, w_slice, w_lslice, w_bor, w_borT, w_funZ, w_comp, op_some, op_map, op_bind, varS_0, varS_s, ownS_0, ownS_s, potS_0, potS_s, boolS_b, intS_i, listS_l, iteB_t, iteB_f, iteB_n, iteB_and, iteB_or, szd_of, seqR_rt, seqR_bk, seqR_ct, loR_nx, loR_ct, loR_bk, loR_rt, outR_nx, outR_rt, List.set_cons_zero, List.set_cons_succ, hid_c, hid_nl, val_c, val_nl, List.length_cons, List.length_nil, List.cons_append, List.nil_append, rep_s, rep_0, Nat.reduceAdd, Nat.reduceSub, Nat.zero_add, f_add, f_addT, f_addS, f_sub, f_mulL, f_mulR, f_div, f_mod, f_pow, f_neg, f_lt, f_le, f_gt, f_ge, f_eqI, f_neI, f_eqS, f_neS, f_eqtI, f_netI, f_eqlI, f_nelI, f_in1, f_nin1, f_in1L, f_nin1L, f_in2, f_nin2, f_in2L, f_nin2L, f_in3, f_nin3, f_in3L, f_nin3L, f_in4, f_nin4, f_in4L, f_nin4L, List.isEmpty_map, f_inT, f_ninT, f_inL, f_ninL, items_t, items_l, f_lenT, f_lenL, f_abs, f_intI, f_intB, f_tupL, f_tupT, f_lstL, f_lstT, f_max2, f_min2, io_nil, io_cons, io_app, intsOf_map, f_maxL, f_maxT, f_minL, f_minT, f_sumL, f_sumT, f_allL, f_anyL, f_catL, w_pop, w_popAt, w_setP, w_dropP, w_asgP, w_appP, flat_map, erase_mapG, w_tupRg, w_lstRg, f_rg1, f_rg2, tg_nil, tg_cons, tg_tup, Option.bind_some, f_eqTE, f_neTE, f_eqLE, f_neLE, f_rev, map_rv, f_mulTI, ixN_last, ixN_p, w_sliceS, w_lsliceS, f_slS, nth_map, f_repr, f_ixL, f_ixT, atI_i, atI_t, atI_0, atI_1, atI_2, atI_lastD, atI_lastG, f_slT, f_slL, cut_n, cut_t, cut_f, cut_b, cut_b0, map_appC, map_snocI, map_snocT, map_consI, map_consT, map_tk, map_dr, map_st, map_stI, map_stT, map_dl, f_rng1, f_rng2, f_lrng, f_enT, f_enL, f_zipT, f_zipL, f_zipTT, f_zipTL, f_zipLT, f_zipLL, zipL_G, f_isN, f_isB, f_isI, f_isS, f_isL, f_isT, f_isnN, f_isnB, f_isnI, f_isnS, f_isnL, f_isnT, f_isiT, f_isiL, f_isiI, f_isiB, f_isiS, f_isiD, isNum_i, isNum_n, isNum_b, isNum_s, isNum_l, isNum_t, isNum_d, isI_n, isI_b, isI_i, isI_s, isI_l, isI_t, isI_d, isTup_n, isTup_b, isTup_i, isTup_s, isTup_l, isTup_t, isTup_d, isLst_n, isLst_b, isLst_i, isLst_s, isLst_l, isLst_t, isLst_d, isIntD_n, isIntD_b, isIntD_i, isIntD_s, isIntD_l, isIntD_t, isIntD_d, isBoolD_n, isBoolD_b, isBoolD_i, isBoolD_s, isBoolD_l, isBoolD_t, isBoolD_d, isStrD_n, isStrD_b, isStrD_i, isStrD_s, isStrD_l, isStrD_t, isStrD_d, isDictD_n, isDictD_b, isDictD_i, isDictD_s, isDictD_l, isDictD_t, isDictD_d, li_0, li_1, li_2, li_3, li_4, li_5, li_6, kw_of, perm_c, perm_n, List.getD_cons_zero, List.getD_cons_succ, bor_0, bor_s, hid_o, hid_v, hid_p, hid_u, shw_o, wipe_n, wipe_c, tg_n, tg_p, tg_3, fl_n, fl_b, fl_i, fl_s, fl_t, fl_an, fl_ac, fl_ai, fl_at, dT_eq, id_eq, List.isEmpty_nil, List.isEmpty_cons, List.length_map, List.length_range, rng_len, rngI_len, idxG_len, List.length_append, List.length_take, List.length_drop, List.length_set, List.length_replicate, Int.toNat_natCast, Int.reduceToNat, decide_true, decide_false, Bool.not_true, Bool.not_false, Bool.and_true, Bool.true_and, Bool.and_false, Bool.false_and, Bool.and_self, Bool.or_true, Bool.true_or, Bool.or_false, Bool.false_or, Bool.or_self, eq_self, true_and, and_true, exists_eq_left, exists_eq_left', and_self, ne_eq, not_false_eq_true, reduceCtorEq, Option.some.injEq, szL, w_sliceP, f_spT, f_spL, f_rg3, w_parLEE, w_parELE, w_parEEL, w_lbor, w_rl, rlR_nx, lj_1, lj_2, lj_3, lj_4]))  local macro_rules | `(tactic| k_asm) => `(tactic| ((try lk); repeat (with_reducible (refine seqR_go ?_); (try lk)))) local macro_rules | `(tactic| k_room) => `(tactic| (refine ⟨?_, ?_⟩ <;> (try simp only [cst_l, cst_t, cst_n, cst_b, csts_n, csts_c, dep_l, dep_t, dep_n, dep_b, dep_i, dep_s, deps_n, deps_c, deps_i, dT_eq, cst_d0, dep_d0, csts_app, deps_app, cst_rev, deps_rev]) <;> (try omega))) local macro_rules | `(tactic| k_flat) => `(tactic| ((try simp only [cst_l, cst_t, cst_n, cst_b, csts_n, csts_c, dep_l, dep_t, dep_n, dep_b, dep_i, dep_s, deps_n, deps_c, deps_i, dT_eq, cst_d0, dep_d0, csts_app, deps_app, cst_rev, deps_rev]); omega))
theorem rng_rev {f : Int → Int} : ∀ m : Nat, sm (rng m) (fun k => f (m - k)) = sm (rngI 1 ((m : Int) + 1)) f
  | 0 => by rw [show ((0 : Nat) : Int) + 1 = 1 by omega, rngI_emp (Int.le_refl 1)]; rfl
  | m + 1 => by
    have e : rng (m + 1) = 0 :: (rng m).map (· + 1) := by
      unfold rng
      rw [List.range_succ_eq_map, List.map_cons, List.map_map, List.map_map]
      congr 1
    rw [e, sm_cons, sm_map, show ((m + 1 : Nat) : Int) + 1 = (m : Int) + 1 + 1 by omega, rngI_suc (by omega), sm_snoc, ← rng_rev m]
    have : sm (rng m) (fun k => f (((m + 1 : Nat) : Int) - (k + 1))) = sm (rng m) fun k => f (m - k) := sm_congr fun k _ => by rw [show ((m + 1 : Nat) : Int) - (k + 1) = m - k by omega]
    rw [this, show ((m + 1 : Nat) : Int) - 0 = (m : Int) + 1 by omega]
    omega
def wsF (S : List Int) (d : Int) (m : Int) : Int := m * S.length + sm (rngI 1 m) fun j => 2 * (m - j) * cor S (j * d)
theorem ws_sq {S : List Int} {d : Int} (h : cor S 0 = S.length) : ∀ m : Nat, 1 ≤ m → wsF S d m = sqC S d m
  | 0, h1 => by omega
  | 1, _ => by
    show ((1 : Nat) : Int) * S.length + sm (rngI 1 ((1 : Nat) : Int)) _ = 0 + cor S 0 + 2 * 0
    rw [rngI_emp (by omega), sm_nil, h]
    omega
  | m + 2, _ => by
    have ih := ws_sq (d := d) h (m + 1) (by omega)
    show _ = sqC S d (m + 1) + cor S 0 + 2 * sm (rng (m + 1)) fun k => cor S ((((m + 1 : Nat) : Int) - k) * d)
    rw [← ih, h, rng_rev (f := fun j => cor S (j * d)) (m + 1)]
    unfold wsF
    have e1 : sm (rngI 1 ((m + 2 : Nat) : Int)) (fun j => 2 * (((m + 2 : Nat) : Int) - j) * cor S (j * d)) = sm (rngI 1 ((m + 2 : Nat) : Int)) fun j => 2 * (((m + 1 : Nat) : Int) - j) * cor S (j * d) + 2 * cor S (j * d) := sm_congr fun j _ => by
      rw [← Int.add_mul]
      congr 1
      omega
    have e2 : sm (rngI 1 ((m + 2 : Nat) : Int)) (fun j => 2 * (((m + 1 : Nat) : Int) - j) * cor S (j * d)) = sm (rngI 1 ((m + 1 : Nat) : Int)) fun j => 2 * (((m + 1 : Nat) : Int) - j) * cor S (j * d) := by
      rw [show ((m + 2 : Nat) : Int) = ((m + 1 : Nat) : Int) + 1 by omega, rngI_suc (by omega), sm_snoc, Int.sub_self, Int.mul_zero, Int.zero_mul, Int.add_zero]
    rw [e1, sm_add, e2, sm_mul]
    rw [show ((m + 1 : Nat) : Int) + 1 = ((m + 2 : Nat) : Int) by omega]
    have e3 : ((m + 2 : Nat) : Int) * (S.length : Int) = ((m + 1 : Nat) : Int) * S.length + S.length := by
      rw [show ((m + 2 : Nat) : Int) = ((m + 1 : Nat) : Int) + 1 by omega, Int.add_mul, Int.one_mul]
    omega
def alF (S : List Int) (j : Nat) : Int := ((S.zip (S.drop j)).map fun q => q.1 * q.2).sum
theorem zip_sm : ∀ (A B : List Int), ((A.zip B).map fun q => q.1 * q.2).sum = sm (rng A.length) fun i => A.getD i.toNat 0 * B.getD i.toNat 0
  | [], B => rfl
  | a :: r, [] => by
    rw [sm_zero]
    · rfl
    · intro i _
      show _ * ([] : List Int).getD i.toNat 0 = 0
      rw [List.getD_eq_getElem?_getD]
      simp
  | a :: r, b :: s => by
    have e : rng (r.length + 1) = 0 :: (rng r.length).map (· + 1) := by
      unfold rng
      rw [List.range_succ_eq_map, List.map_cons, List.map_map, List.map_map]
      congr 1
    rw [List.zip_cons_cons, List.map_cons, List.sum_cons, zip_sm r s, List.length_cons, e, sm_cons, sm_map]
    congr 1
    refine sm_congr fun i hi => ?_
    have := (rng_mem.mp hi).1
    rw [show (i + 1).toNat = i.toNat + 1 by omega, List.getD_cons_succ, List.getD_cons_succ]
theorem al_cor (S : List Int) (j : Nat) : alF S j = cor S j := by
  unfold alF cor
  rw [zip_sm, rngI_0]
  refine sm_congr fun i hi => ?_
  have h0 := (rng_mem.mp hi).1
  unfold zf
  rw [if_pos h0, if_pos (show 0 ≤ i + (j : Int) by omega), List.getD_eq_getElem?_getD (l := S.drop j), List.getElem?_drop, List.getD_eq_getElem?_getD (l := S) (i := (i + (j : Int)).toNat), show (i + (j : Int)).toNat = j + i.toNat by omega]
theorem cor_far {S : List Int} {j : Int} (h : (S.length : Int) ≤ j) : cor S j = 0 := sm_zero fun b hb => by
  have := rngI_mem.mp hb
  rw [zf_out (i := b + j) (.inr (by omega)), Int.mul_zero]
def PM (S : List Int) : Prop := ∀ x ∈ S, x = 1 ∨ x = -1
theorem zf_pm {S : List Int} (h : PM S) {i : Int} (h0 : 0 ≤ i) (h1 : i < S.length) : zf S i = 1 ∨ zf S i = -1 := by
  unfold zf
  rw [if_pos h0, List.getD_eq_getElem?_getD, List.getElem?_eq_getElem (by omega)]
  exact h _ (List.getElem_mem _)
theorem cor_0 {S : List Int} (h : PM S) : cor S 0 = S.length := by
  unfold cor
  have : sm (rngI 0 S.length) (fun b => zf S b * zf S (b + 0)) = sm (rngI 0 S.length) fun _ => 1 := sm_congr fun b hb => by
    obtain ⟨b0, b1⟩ := rngI_mem.mp hb
    rw [Int.add_zero]
    rcases zf_pm h b0 b1 with e | e <;> rw [e] <;> rfl
  rw [this]
  have h2 : ∀ l : List Int, sm l (fun _ => 1) = l.length := fun l => by
    induction l with
    | nil => rfl
    | cons x r ih => rw [sm_cons, ih, List.length_cons]; omega
  rw [h2, rngI_len]
  omega
theorem sum_zip_b {S : List Int} (h : PM S) (j : Nat) : (alF S j).natAbs ≤ S.length := by
  have : ∀ l : List (Int × Int), (∀ q ∈ l, (q.1 = 1 ∨ q.1 = -1) ∧ (q.2 = 1 ∨ q.2 = -1)) → ((l.map fun q : Int × Int => q.1 * q.2).sum).natAbs ≤ l.length := fun l => by
    induction l with
    | nil => intro _; exact Nat.le_refl 0
    | cons q r ih =>
      intro hl
      have h1 := ih fun x hx => hl x (List.mem_cons_of_mem _ hx)
      have h2 := hl q List.mem_cons_self
      rw [List.map_cons, List.sum_cons, List.length_cons]
      rcases h2 with ⟨a | a, b | b⟩ <;> rw [a, b] <;> omega
  have h3 := this (S.zip (S.drop j)) fun q hq => ⟨h _ (List.of_mem_zip hq).1, h _ (List.mem_of_mem_drop (List.of_mem_zip hq).2)⟩
  rw [List.length_zip] at h3
  unfold alF
  omega
theorem v_like {S : List Int} (h : PM S) (hl : S.length ≤ 1000) (j : Nat) : f_likeness [.tuple (S.map .int), .int j] = some (.int (alF S j)) := by
  refine runPe ?_
  unfold s_likeness
  k_asm
  refine compM .int (fun q : Int × Int => q.1 * q.2) (fun q hq => ?_) ?_
  · have : q.1.natAbs ≤ 1 := by rcases h _ (List.of_mem_zip hq).1 with e | e <;> rw [e] <;> decide
    lk
  · k_asm
    rfl
theorem v_alike {S : List Int} {w : D} (hw : w = .tuple (S.map .int) ∨ w = .list (S.map .int)) (h : PM S) (hl : S.length ≤ 1000) (j : Nat) : f__law_alike [w, .int j] = some (.int (alF S j)) := by
  rcases hw with rfl | rfl
  · refine runPe ?_
    unfold s__law_alike
    k_asm
    refine compM .int (fun q : Int × Int => q.1 * q.2) (fun q hq => ?_) ?_
    · have : q.1.natAbs ≤ 1 := by rcases h _ (List.of_mem_zip hq).1 with e | e <;> rw [e] <;> decide
      lk
    · k_asm
      rfl
  · refine runPe ?_
    unfold s__law_alike
    k_asm
    refine compM .int (fun q : Int × Int => q.1 * q.2) (fun q hq => ?_) ?_
    · have : q.1.natAbs ≤ 1 := by rcases h _ (List.of_mem_zip hq).1 with e | e <;> rw [e] <;> decide
      lk
    · k_asm
      rfl
end Wk

namespace Wk
open PySem L2 FL
local macro_rules | `(tactic| lk) => `(tactic| (try simp (config := { maxSteps := 3000000 }) (disch := (first | assumption | omega | (simp only [List.length_map, List.length_append, List.length_cons, List.length_nil, List.length_range, rng_len, rngI_len, idxG_len, List.length_take, List.length_drop, List.length_set, List.length_replicate, List.length_reverse, szL]; (first | done | omega)) | exact List.cons_ne_nil _ _ | exact sml rfl | rfl)) only [w_seq, w_set, w_fzS, fzS_o, fzS_v, fzS_u, fzS_p, fzS_s, w_setL, w_ret, w_retN, w_drop, w_sif, w_par, w_par3, w_parLE, w_parEL, w_parLL, w_asg, w_app, w_ext, w_put, w_snil, w_brk, w_cnt, w_for, w_var, w_c, w_bin, w_un, w_lbin, w_test, w_and, w_or, w_not, w_yes, w_if, w_ifL, w_andV, w_orV, w_notV, w_chain, w_nil, w_cons, w_tup, w_disp, w_L, w_call, w_lcall, w_iby, w_iof, w_lrng, w_onone, w_osome, w_slice, w_lslice, w_bor, w_borT, w_funZ, w_comp, op_some, op_map, op_bind, varS_0, varS_s, ownS_0, ownS_s, potS_0, potS_s, boolS_b, intS_i, listS_l, iteB_t, iteB_f, iteB_n, iteB_and, iteB_or, szd_of, seqR_rt, seqR_bk, seqR_ct, loR_nx, loR_ct, loR_bk, loR_rt, outR_nx, outR_rt, List.set_cons_zero, List.set_cons_succ, hid_c, hid_nl, val_c, val_nl, List.length_cons, List.length_nil, List.cons_append, List.nil_append, rep_s, rep_0, Nat.reduceAdd, Nat.reduceSub, Nat.zero_add, f_add, f_addT, f_addS, f_sub, f_mulL, f_mulR, f_div, f_mod, f_pow, f_neg, f_lt, f_le, f_gt, f_ge, f_eqI, f_neI, f_eqS, f_neS, f_eqtI, f_netI, f_eqlI, f_nelI, f_in1, f_nin1, f_in1L, f_nin1L, f_in2, f_nin2, f_in2L, f_nin2L, f_in3, f_nin3, f_in3L, f_nin3L, f_in4, f_nin4, f_in4L, f_nin4L, List.isEmpty_map, f_inT, f_ninT, f_inL, f_ninL, items_t, items_l, f_lenT, f_lenL, f_abs, f_intI, f_intB, f_tupL, f_tupT, f_lstL, f_lstT, f_max2, f_min2, io_nil, io_cons, io_app, intsOf_map, f_maxL, f_maxT, f_minL, f_minT, f_sumL, f_sumT, f_allL, f_anyL, f_catL, w_pop, w_popAt, w_setP, w_dropP, w_asgP, w_appP, flat_map, erase_mapG, w_tupRg, w_lstRg, f_rg1, f_rg2, tg_nil, tg_cons, tg_tup, Option.bind_some, f_eqTE, f_neTE, f_eqLE, f_neLE, f_rev, map_rv, f_mulTI, ixN_last, ixN_p, w_sliceS, w_lsliceS, f_slS, nth_map, f_repr, f_ixL, f_ixT, atI_i, atI_t, atI_0, atI_1, atI_2, atI_lastD, atI_lastG, f_slT, f_slL, cut_n, cut_t, cut_f, cut_b, cut_b0, map_appC, map_snocI, map_snocT, map_consI, map_consT, map_tk, map_dr, map_st, map_stI, map_stT, map_dl, f_rng1, f_rng2, f_lrng, f_enT, f_enL, f_zipT, f_zipL, f_zipTT, f_zipTL, f_zipLT, f_zipLL, zipL_G, f_isN, f_isB, f_isI, f_isS, f_isL, f_isT, f_isnN, f_isnB, f_isnI, f_isnS, f_isnL, f_isnT, f_isiT, f_isiL, f_isiI, f_isiB, f_isiS, f_isiD, isNum_i, isNum_n, isNum_b, isNum_s, isNum_l, isNum_t, isNum_d, isI_n, isI_b, isI_i, isI_s, isI_l, isI_t, isI_d, isTup_n, isTup_b, isTup_i, isTup_s, isTup_l, isTup_t, isTup_d, isLst_n, isLst_b, isLst_i, isLst_s, isLst_l, isLst_t, isLst_d, isIntD_n, isIntD_b, isIntD_i, isIntD_s, isIntD_l, isIntD_t, isIntD_d, isBoolD_n, isBoolD_b, isBoolD_i, isBoolD_s, isBoolD_l, isBoolD_t, isBoolD_d, isStrD_n, isStrD_b, isStrD_i, isStrD_s, isStrD_l, isStrD_t, isStrD_d, isDictD_n, isDictD_b, isDictD_i, isDictD_s, isDictD_l, isDictD_t, isDictD_d, li_0, li_1, li_2, li_3, li_4, li_5, li_6, kw_of, perm_c, perm_n, List.getD_cons_zero, List.getD_cons_succ, bor_0, bor_s, hid_o, hid_v, hid_p, hid_u, shw_o, wipe_n, wipe_c, tg_n, tg_p, tg_3, fl_n, fl_b, fl_i, fl_s, fl_t, fl_an, fl_ac, fl_ai, fl_at, dT_eq, id_eq, List.isEmpty_nil, List.isEmpty_cons, List.length_map, List.length_range, rng_len, rngI_len, idxG_len, List.length_append, List.length_take, List.length_drop, List.length_set, List.length_replicate, Int.toNat_natCast, Int.reduceToNat, decide_true, decide_false, Bool.not_true, Bool.not_false, Bool.and_true, Bool.true_and, Bool.and_false, Bool.false_and, Bool.and_self, Bool.or_true, Bool.true_or, Bool.or_false, Bool.false_or, Bool.or_self, eq_self, true_and, and_true, exists_eq_left, exists_eq_left', and_self, ne_eq, not_false_eq_true, reduceCtorEq, Option.some.injEq, szL, w_sliceP, f_spT, f_spL, f_rg3, w_parLEE, w_parELE, w_parEEL, w_lbor, w_rl, rlR_nx, lj_1, lj_2, lj_3, lj_4]))  local macro_rules | `(tactic| k_asm) => `(tactic| ((try lk); repeat (with_reducible (refine seqR_go ?_); (try lk)))) local macro_rules | `(tactic| k_room) => `(tactic| (refine ⟨?_, ?_⟩ <;> (try simp only [cst_l, cst_t, cst_n, cst_b, csts_n, csts_c, dep_l, dep_t, dep_n, dep_b, dep_i, dep_s, deps_n, deps_c, deps_i, dT_eq, cst_d0, dep_d0, csts_app, deps_app, cst_rev, deps_rev]) <;> (try omega))) local macro_rules | `(tactic| k_flat) => `(tactic| ((try simp only [cst_l, cst_t, cst_n, cst_b, csts_n, csts_c, dep_l, dep_t, dep_n, dep_b, dep_i, dep_s, deps_n, deps_c, deps_i, dT_eq, cst_d0, dep_d0, csts_app, deps_app, cst_rev, deps_rev]); omega))
theorem rngI_parts {a b x : Int} {pre post : List Int} (h : rngI a b = pre ++ x :: post) : x = a + pre.length ∧ a ≤ x ∧ x < b ∧ ∀ y ∈ x :: post, x ≤ y ∧ y < b := by
  have at_ : ∀ (i : Nat) (y : Int), (rngI a b)[i]? = some y → y = a + i ∧ y < b := fun i y hy => by
    have hl : i < (rngI a b).length := (List.getElem?_eq_some_iff.mp hy).1
    rw [rngI_len] at hl
    rw [rngI_get hl] at hy
    have := Option.some.inj hy
    omega
  have hx := at_ pre.length x (by rw [h, List.getElem?_append_right (Nat.le_refl _), Nat.sub_self]; rfl)
  refine ⟨hx.1, by omega, hx.2, fun y hy => ?_⟩
  obtain ⟨k, hk⟩ := List.getElem?_of_mem hy
  have := at_ (pre.length + k) y (by rw [h, List.getElem?_append_right (by omega), Nat.add_sub_cancel_left]; exact hk)
  omega
def tmF (S : List Int) (d m : Int) (j : Int) : Int := 2 * (m - j) * cor S (j * d)
theorem tm_far {S : List Int} {d m j : Int} (hd : 1 ≤ d) (hj : 0 ≤ j) (h : (S.length : Int) ≤ j * d) : tmF S d m j = 0 := by
  unfold tmF
  rw [cor_far h, Int.mul_zero]
theorem le_muld {x y d : Int} (hd : 1 ≤ d) (h : x ≤ y) : x * d ≤ y * d := Int.mul_le_mul_of_nonneg_right h (by omega)
theorem v_ws {S : List Int} (h : PM S) (hl : S.length ≤ 100) {d m : Int} (d0 : 1 ≤ d) (d1 : d ≤ 100) (m0 : 1 ≤ m) (m1 : m ≤ 100) : f_window_squares [.tuple (S.map .int), .int d, .int m] = some (.int (wsF S d m)) := by
  refine runPe ?_
  unfold s_window_squares
  k_asm
  refine loopP (fun pre σ _ => ∃ j5 : Sl, σ = [.val (.tuple (S.map .int)), .val (.int d), .val (.int m), .val (.int S.length), .val (.int (m * S.length + sm pre (tmF S d m))), j5]) ⟨_, by rw [sm_nil, Int.add_zero]⟩ ?_ ?_
  · rintro pre x post σ p hx ⟨j5, rfl⟩
    obtain ⟨x1, x2, x3, x4⟩ := rngI_parts (show rngI 1 m = pre ++ x :: post from hx)
    k_asm
    refine iteB (fun g => ?_) fun g => ?_
    · k_asm
      have : sm (rngI 1 m) (tmF S d m) = sm pre (tmF S d m) := by
        rw [show rngI 1 m = pre ++ x :: post from hx, sm_app, sm_zero (xs := x :: post), Int.add_zero]
        intro y hy
        have := x4 y hy
        exact tm_far d0 (by omega) (Int.le_trans g (le_muld d0 this.1))
      unfold wsF
      rw [show (fun j => 2 * (m - j) * cor S (j * d)) = tmF S d m from rfl, this]
    · have hxd : 0 ≤ x * d := Int.mul_nonneg (by omega) (by omega)
      have v := v_like h (by omega) (x * d).toNat
      rw [al_cor, show (((x * d).toNat : Nat) : Int) = x * d by omega] at v
      have hc : (cor S (x * d)).natAbs ≤ 100 := by
        have := sum_zip_b h (x * d).toNat
        rw [al_cor, show (((x * d).toNat : Nat) : Int) = x * d by omega] at this
        omega
      k_asm
      rw [v]
      k_asm
      have e : sm (pre ++ [x]) (tmF S d m) = sm pre (tmF S d m) + 2 * (m - x) * cor S (x * d) := sm_snoc
      rw [e, ← Int.add_assoc]
      exact ⟨_, rfl⟩
  · rintro σ p ⟨j5, rfl⟩
    k_asm
    rfl
theorem v_lsq {S : List Int} {w : D} (hw : w = .tuple (S.map .int) ∨ w = .list (S.map .int)) (h : PM S) (hl : S.length ≤ 100) {d m : Int} (d0 : 1 ≤ d) (d1 : d ≤ 100) (m0 : 1 ≤ m) (m1 : m ≤ 100) : f__law_squares [w, .int d, .int m] = some (.int (wsF S d m)) := by
  have va := v_alike (w := w) hw h (by omega)
  have hlen : fLen [w] = some (.int S.length) := by
    rcases hw with rfl | rfl
    · show some (PyData.int ((S.map PyData.int).length)) = _; rw [List.length_map]
    · show some (PyData.int ((S.map PyData.int).length)) = _; rw [List.length_map]
  refine runPe ?_
  unfold s__law_squares
  k_asm
  rw [hlen]
  k_asm
  rw [hlen]
  k_asm
  have key : ∀ (t : Int), (t = m ∨ (t = S.length ∧ t ≤ m)) → LoopR (tgN 4) (sIf (xTest (xBin fLt (xBin fMul (xVar 4) (xVar 1)) (xCall fLen (aCons (xVar 0) aNil)))) (sSet 3 (xBin fAdd (xVar 3) (xBin fMul (xBin fMul (xC (.int 2)) (xBin fSub (xVar 2) (xVar 4))) (xCall (lenIs 2 f__law_alike) (aCons (xVar 0) (aCons (xBin fMul (xVar 4) (xVar 1)) aNil)))))) sNil) ((rngI 1 t).map .int) [.val w, .val (.int d), .val (.int m), .val (.int (m * S.length)), .un] () (SeqR (sRet (xVar 3)) (OutR fun x _ => x = .int (wsF S d m))) := fun t ht => by
    refine loopP (fun pre σ _ => ∃ j4 : Sl, σ = [.val w, .val (.int d), .val (.int m), .val (.int (m * S.length + sm pre (tmF S d m))), j4]) ⟨_, by rw [sm_nil, Int.add_zero]⟩ ?_ ?_
    · rintro pre x post σ p hx ⟨j4, rfl⟩
      obtain ⟨x1, x2, x3, x4⟩ := rngI_parts (show rngI 1 t = pre ++ x :: post from hx)
      have e : sm (pre ++ [x]) (tmF S d m) = sm pre (tmF S d m) + tmF S d m x := sm_snoc
      rw [e]
      have hxd : 0 ≤ x * d := Int.mul_nonneg (by omega) (by omega)
      have v := va (x * d).toNat
      rw [al_cor, show (((x * d).toNat : Nat) : Int) = x * d by omega] at v
      have hc : (cor S (x * d)).natAbs ≤ 100 := by
        have := sum_zip_b h (x * d).toNat
        rw [al_cor, show (((x * d).toNat : Nat) : Int) = x * d by omega] at this
        omega
      k_asm
      rw [hlen]
      k_asm
      refine iteB (fun g => ?_) fun g => ?_
      · k_asm
        rw [v]
        k_asm
        rw [Int.add_assoc]
        exact ⟨_, rfl⟩
      · rw [tm_far d0 (by omega) (by omega), Int.add_zero]
        exact ⟨_, rfl⟩
    · rintro σ p ⟨j4, rfl⟩
      k_asm
      unfold wsF
      rw [show (fun j => 2 * (m - j) * cor S (j * d)) = tmF S d m from rfl]
      rcases ht with rfl | ⟨rfl, ht⟩
      · rfl
      · by_cases g : 1 ≤ (S.length : Int)
        · have sp := sm_split (f := tmF S d m) (m - S.length).toNat 1 S.length g
          rw [show (S.length : Int) + ((m - S.length).toNat : Nat) = m by omega] at sp
          rw [sp, sm_zero (xs := rngI S.length m), Int.add_zero]
          intro y hy
          have := rngI_mem.mp hy
          have h2 := le_muld d0 this.1
          have h3 : (S.length : Int) * 1 ≤ S.length * d := Int.mul_le_mul_of_nonneg_left d0 (by omega)
          exact tm_far d0 (by omega) (by omega)
        · rw [rngI_emp (by omega), sm_nil, sm_zero]
          intro y hy
          have := rngI_mem.mp hy
          have : 0 ≤ y * d := Int.mul_nonneg (by omega) (by omega)
          exact tm_far d0 (by omega) (by omega)
  refine key _ ?_
  rcases Int.le_total m S.length with g | g
  · exact .inl (Int.min_eq_left g)
  · exact .inr ⟨Int.min_eq_right g, by rw [Int.min_eq_right g]; exact g⟩
theorem zf_b {S : List Int} (h : PM S) (i : Int) : (zf S i).natAbs ≤ 1 := by
  by_cases g : 0 ≤ i ∧ i < S.length
  · rcases zf_pm h g.1 g.2 with e | e <;> rw [e] <;> decide
  · rw [zf_out (by omega)]
    decide
theorem win_b {S : List Int} (h : PM S) (d a : Int) : ∀ m : Nat, (win S d m a).natAbs ≤ m
  | 0 => Nat.le_refl 0
  | m + 1 => by
    have := win_b h d a m
    have := zf_b h (a + m * d)
    show (win S d m a + zf S (a + m * d)).natAbs ≤ _
    omega
theorem win_flt {S : List Int} {d a : Int} {m : Nat} : (((rng m).filter fun k => decide (0 ≤ a + k * d) && decide (a + k * d < S.length)).map fun k => S.getD (a + k * d).toNat 0).sum = win S d m a := by
  rw [sm_filter, win_sm]
  refine sm_congr fun k _ => ?_
  by_cases g : 0 ≤ a + k * d
  · by_cases g2 : a + k * d < S.length
    · rw [if_pos (by simp [g, g2])]
      unfold zf
      rw [if_pos g]
    · rw [if_neg (by simp [g2]), zf_out (.inr (by omega))]
  · rw [if_neg (by simp [g]), zf_out (.inl (by omega))]
theorem v_lwin {S : List Int} (h : PM S) (hl : S.length ≤ 100) {d : Int} {m : Nat} (d0 : 1 ≤ d) (d1 : d ≤ 100) (m0 : 1 ≤ m) (m1 : m ≤ 100) : f__law_windows [.tuple (S.map .int), .int d, .int m] = some (.int (wsF S d m)) := by
  have b0 : 0 ≤ ((m : Int) - 1) * d := Int.mul_nonneg (by omega) (by omega)
  have b1 : ((m : Int) - 1) * d ≤ 100 * 100 := Int.mul_le_mul (by omega) d1 (by omega) (by omega)
  refine runPe ?_
  unfold s__law_windows
  k_asm
  rw [Int.neg_mul]
  k_asm
  rw [ws_sq (cor_0 h) m m0, ← win_sq (S := S) (M := ((m : Int) - 1) * d) (by omega) m (Int.le_refl _)]
  generalize ((m : Int) - 1) * d = M at b0 b1
  refine loopP (fun pre σ _ => ∃ j5 j6 : Sl, σ = [.val (.tuple (S.map .int)), .val (.int d), .val (.int m), .val (.int S.length), .val (.int (sm pre fun a => win S d m a * win S d m a)), j5, j6, .un]) ⟨_, _, rfl⟩ ?_ ?_
  · rintro pre a post σ p hx ⟨j5, j6, rfl⟩
    have e : sm (pre ++ [a]) (fun a => win S d m a * win S d m a) = sm pre (fun a => win S d m a * win S d m a) + win S d m a * win S d m a := sm_snoc
    rw [e]
    obtain ⟨a1, a2, a3, _⟩ := rngI_parts (show rngI (-M) S.length = pre ++ a :: post from hx)
    k_asm
    refine compP .int (fun k => decide (0 ≤ a + k * d) && decide (a + k * d < S.length)) (fun k => S.getD (a + k * d).toNat 0) (fun k hk => ?_) ?_
    · have hk := rng_mem.mp hk
      lk
      refine iteB (fun g => ?_) fun g => ?_
      · rw [decide_eq_true g, Bool.true_and]
        refine ⟨rfl, fun hh => ?_⟩
        have := of_decide_eq_true hh
        lk
      · rw [decide_eq_false g, Bool.false_and]
        exact ⟨rfl, fun hh => by cases hh⟩
    · k_asm
      rw [win_flt]
      have hb := win_b h d a m
      k_asm
      exact ⟨_, _, rfl⟩
  · rintro σ p ⟨j5, j6, rfl⟩
    k_asm
end Wk

namespace Wk
open PySem L2 FL
local macro_rules | `(tactic| lk) => `(tactic| (try simp (config := { maxSteps := 3000000 }) (disch := (first | assumption | omega | (simp only [List.length_map, List.length_append, List.length_cons, List.length_nil, List.length_range, rng_len, rngI_len, idxG_len, List.length_take, List.length_drop, List.length_set, List.length_replicate, List.length_reverse, szL]; (first | done | omega)) | exact List.cons_ne_nil _ _ | exact sml rfl | rfl)) only [w_seq, w_set, w_fzS, fzS_o, fzS_v, fzS_u, fzS_p, fzS_s, w_setL, w_ret, w_retN, w_drop, w_sif, w_par, w_par3, w_parLE, w_parEL, w_parLL, w_asg, w_app, w_ext, w_put, w_snil, w_brk, w_cnt, w_for, w_var, w_c, w_bin, w_un, w_lbin, w_test, w_and, w_or, w_not, w_yes, w_if, w_ifL, w_andV, w_orV, w_notV, w_chain, w_nil, w_cons, w_tup, w_disp, w_L, w_call, w_lcall, w_iby, w_iof, w_lrng, w_onone, w_osome, w_slice, w_lslice, w_bor, w_borT, w_funZ, w_comp, op_some, op_map, op_bind, varS_0, varS_s, ownS_0, ownS_s, potS_0, potS_s, boolS_b, intS_i, listS_l, iteB_t, iteB_f, iteB_n, iteB_and, iteB_or, szd_of, seqR_rt, seqR_bk, seqR_ct, loR_nx, loR_ct, loR_bk, loR_rt, outR_nx, outR_rt, List.set_cons_zero, List.set_cons_succ, hid_c, hid_nl, val_c, val_nl, List.length_cons, List.length_nil, List.cons_append, List.nil_append, rep_s, rep_0, Nat.reduceAdd, Nat.reduceSub, Nat.zero_add, f_add, f_addT, f_addS, f_sub, f_mulL, f_mulR, f_div, f_mod, f_pow, f_neg, f_lt, f_le, f_gt, f_ge, f_eqI, f_neI, f_eqS, f_neS, f_eqtI, f_netI, f_eqlI, f_nelI, f_in1, f_nin1, f_in1L, f_nin1L, f_in2, f_nin2, f_in2L, f_nin2L, f_in3, f_nin3, f_in3L, f_nin3L, f_in4, f_nin4, f_in4L, f_nin4L, List.isEmpty_map, f_inT, f_ninT, f_inL, f_ninL, items_t, items_l, f_lenT, f_lenL, f_abs, f_intI, f_intB, f_tupL, f_tupT, f_lstL, f_lstT, f_max2, f_min2, io_nil, io_cons, io_app, intsOf_map, f_maxL, f_maxT, f_minL, f_minT, f_sumL, f_sumT, f_allL, f_anyL, f_catL, w_pop, w_popAt, w_setP, w_dropP, w_asgP, w_appP, flat_map, erase_mapG, w_tupRg, w_lstRg, f_rg1, f_rg2, tg_nil, tg_cons, tg_tup, Option.bind_some, f_eqTE, f_neTE, f_eqLE, f_neLE, f_rev, map_rv, f_mulTI, ixN_last, ixN_p, w_sliceS, w_lsliceS, f_slS, nth_map, f_repr, f_ixL, f_ixT, atI_i, atI_t, atI_0, atI_1, atI_2, atI_lastD, atI_lastG, f_slT, f_slL, cut_n, cut_t, cut_f, cut_b, cut_b0, map_appC, map_snocI, map_snocT, map_consI, map_consT, map_tk, map_dr, map_st, map_stI, map_stT, map_dl, f_rng1, f_rng2, f_lrng, f_enT, f_enL, f_zipT, f_zipL, f_zipTT, f_zipTL, f_zipLT, f_zipLL, zipL_G, f_isN, f_isB, f_isI, f_isS, f_isL, f_isT, f_isnN, f_isnB, f_isnI, f_isnS, f_isnL, f_isnT, f_isiT, f_isiL, f_isiI, f_isiB, f_isiS, f_isiD, isNum_i, isNum_n, isNum_b, isNum_s, isNum_l, isNum_t, isNum_d, isI_n, isI_b, isI_i, isI_s, isI_l, isI_t, isI_d, isTup_n, isTup_b, isTup_i, isTup_s, isTup_l, isTup_t, isTup_d, isLst_n, isLst_b, isLst_i, isLst_s, isLst_l, isLst_t, isLst_d, isIntD_n, isIntD_b, isIntD_i, isIntD_s, isIntD_l, isIntD_t, isIntD_d, isBoolD_n, isBoolD_b, isBoolD_i, isBoolD_s, isBoolD_l, isBoolD_t, isBoolD_d, isStrD_n, isStrD_b, isStrD_i, isStrD_s, isStrD_l, isStrD_t, isStrD_d, isDictD_n, isDictD_b, isDictD_i, isDictD_s, isDictD_l, isDictD_t, isDictD_d, li_0, li_1, li_2, li_3, li_4, li_5, li_6, kw_of, perm_c, perm_n, List.getD_cons_zero, List.getD_cons_succ, bor_0, bor_s, hid_o, hid_v, hid_p, hid_u, shw_o, wipe_n, wipe_c, tg_n, tg_p, tg_3, fl_n, fl_b, fl_i, fl_s, fl_t, fl_an, fl_ac, fl_ai, fl_at, dT_eq, id_eq, List.isEmpty_nil, List.isEmpty_cons, List.length_map, List.length_range, rng_len, rngI_len, idxG_len, List.length_append, List.length_take, List.length_drop, List.length_set, List.length_replicate, Int.toNat_natCast, Int.reduceToNat, decide_true, decide_false, Bool.not_true, Bool.not_false, Bool.and_true, Bool.true_and, Bool.and_false, Bool.false_and, Bool.and_self, Bool.or_true, Bool.true_or, Bool.or_false, Bool.false_or, Bool.or_self, eq_self, true_and, and_true, exists_eq_left, exists_eq_left', and_self, ne_eq, not_false_eq_true, reduceCtorEq, Option.some.injEq, szL, w_sliceP, f_spT, f_spL, f_rg3, w_parLEE, w_parELE, w_parEEL, w_lbor, w_rl, rlR_nx, lj_1, lj_2, lj_3, lj_4]))  local macro_rules | `(tactic| k_asm) => `(tactic| ((try lk); repeat (with_reducible (refine seqR_go ?_); (try lk)))) local macro_rules | `(tactic| k_room) => `(tactic| (refine ⟨?_, ?_⟩ <;> (try simp only [cst_l, cst_t, cst_n, cst_b, csts_n, csts_c, dep_l, dep_t, dep_n, dep_b, dep_i, dep_s, deps_n, deps_c, deps_i, dT_eq, cst_d0, dep_d0, csts_app, deps_app, cst_rev, deps_rev]) <;> (try omega))) local macro_rules | `(tactic| k_flat) => `(tactic| ((try simp only [cst_l, cst_t, cst_n, cst_b, csts_n, csts_c, dep_l, dep_t, dep_n, dep_b, dep_i, dep_s, deps_n, deps_c, deps_i, dT_eq, cst_d0, dep_d0, csts_app, deps_app, cst_rev, deps_rev]); omega))
def Wb (S : List Int) (w d : Int) (low : Int) : Prop := ∀ t1 t2 : Nat, win S d t1 low - win S d t2 low ≤ w
theorem Wb.mono {S : List Int} {w v d low : Int} (h : Wb S w d low) (hv : w ≤ v) : Wb S v d low := fun a b => Int.le_trans (h a b) hv
theorem win_diff {S : List Int} {d low q : Int} (h0 : 0 ≤ low) (h1 : low < d) : ∀ m : Nat, win S d m (low + q * d) = win S d (q + m).toNat low - win S d q.toNat low
  | 0 => by rw [show q + ((0 : Nat) : Int) = q by omega, Int.sub_self]; rfl
  | m + 1 => by
    show win S d m (low + q * d) + zf S (low + q * d + m * d) = _
    rw [win_diff h0 h1 m]
    have e : low + q * d + m * d = low + (q + m) * d := by rw [Int.add_mul]; omega
    rw [e]
    by_cases g : 0 ≤ q + m
    · rw [show (q + ((m + 1 : Nat) : Int)).toNat = (q + m).toNat + 1 by omega]
      show _ = win S d (q + m).toNat low + zf S (low + ((q + m).toNat : Nat) * d) - _
      rw [show (((q + m).toNat : Nat) : Int) = q + m by omega]
      omega
    · rw [show (q + ((m + 1 : Nat) : Int)).toNat = (q + m).toNat by omega, zf_out, Int.add_zero]
      left
      have := Int.mul_le_mul_of_nonneg_right (show q + m ≤ -1 by omega) (show 0 ≤ d by omega)
      omega
theorem win_far {S : List Int} {d low : Int} (h0 : 0 ≤ low) (hd : (S.length : Int) < d) : ∀ t : Nat, win S d (t + 1) low = zf S low
  | 0 => by
    show 0 + zf S (low + ((0 : Nat) : Int) * d) = _
    rw [show low + ((0 : Nat) : Int) * d = low by rw [Int.natCast_zero, Int.zero_mul, Int.add_zero]]
    omega
  | t + 1 => by
    show win S d (t + 1) low + zf S (low + ((t + 1 : Nat) : Int) * d) = _
    have hm : d ≤ ((t + 1 : Nat) : Int) * d := by
      have := Int.mul_le_mul_of_nonneg_right (show (1 : Int) ≤ ((t + 1 : Nat) : Int) by omega) (show 0 ≤ d by omega)
      omega
    rw [win_far h0 hd t, zf_out (i := low + ((t + 1 : Nat) : Int) * d) (.inr (by omega)), Int.add_zero]
theorem all_win {S : List Int} (h : PM S) (h0 : 1 ≤ S.length) {w : Int} (hw : ∀ d low : Int, 1 ≤ d → d ≤ S.length → 0 ≤ low → low < d → Wb S w d low) {d : Int} (hd : 1 ≤ d) (m : Nat) (a : Int) : ((win S d m a).natAbs : Int) ≤ w := by
  have l0 := Int.emod_nonneg a (show d ≠ 0 by omega)
  have l1 := Int.emod_lt_of_pos a (show 0 < d by omega)
  have e := win_diff (S := S) (q := a / d) l0 l1 m
  rw [show a % d + a / d * d = a by rw [Int.mul_comm]; exact Int.emod_add_mul_ediv a d] at e
  rw [e]
  by_cases g : d ≤ S.length
  · have h1 := hw d (a % d) hd g l0 l1 (a / d + m).toNat (a / d).toNat
    have h2 := hw d (a % d) hd g l0 l1 (a / d).toNat (a / d + m).toNat
    omega
  · have w1 : 1 ≤ w := by
      have a1 := hw 1 0 (by omega) (by omega) (by omega) (by omega) 1 0
      have a2 := hw 1 0 (by omega) (by omega) (by omega) (by omega) 0 1
      have b1 : win S 1 1 0 = 0 + zf S (0 + ((0 : Nat) : Int) * 1) := rfl
      have b0 : win S 1 0 0 = 0 := rfl
      have := zf_pm h (i := 0 + ((0 : Nat) : Int) * 1) (by decide) (by simp; omega)
      omega
    have hb := zf_b h (a % d)
    have hf : ∀ t : Nat, win S d t (a % d) = 0 ∨ win S d t (a % d) = zf S (a % d) := fun t => by
      cases t with
      | zero => exact .inl rfl
      | succ t => exact .inr (win_far l0 (by omega) t)
    rcases hf (a / d + m).toNat with x | x <;> rcases hf (a / d).toNat with y | y <;> rw [x, y] <;> omega
/-- the places low, low + d, .. -/
theorem stp_parts {i j c x : Int} {pre post : List Int} (h0 : 0 < c) (hi : i < j) (h : stp i j c = pre ++ x :: post) : x = i + pre.length * c ∧ x < j := by
  have hx : (stp i j c)[pre.length]? = some x := by rw [h, List.getElem?_append_right (Nat.le_refl _), Nat.sub_self]; rfl
  unfold stp at hx
  rw [List.getElem?_map] at hx
  have hs := size_up (i := i) (j := j) h0
  rw [if_pos hi] at hs
  cases e : (List.range (Builtin.Range.rangeSize i j c).toNat)[pre.length]? with
  | none => rw [e] at hx; cases hx
  | some k =>
    rw [e] at hx
    obtain ⟨hk, e2⟩ := List.getElem?_eq_some_iff.mp e
    rw [List.getElem_range] at e2
    subst e2
    have hx : i + (pre.length : Int) * c = x := Option.some.inj hx
    rw [List.length_range, hs] at hk
    have hq : (pre.length : Int) ≤ (j - i - 1) / c := by omega
    have := (Int.le_ediv_iff_mul_le h0).mp hq
    omega
theorem stp_len {i j c : Int} (h0 : 0 < c) (hi : i < j) : j ≤ i + (stp i j c).length * c := by
  unfold stp
  rw [List.length_map, List.length_range, size_up h0, if_pos hi]
  have hd := Int.ediv_nonneg (show 0 ≤ j - i - 1 by omega) (show 0 ≤ c by omega)
  rw [show ((((j - i - 1) / c + 1).toNat : Nat) : Int) = (j - i - 1) / c + 1 by omega, Int.add_mul, Int.one_mul]
  have := Int.lt_ediv_add_one_mul_self (j - i - 1) h0
  rw [Int.add_mul, Int.one_mul] at this
  omega
theorem stp_emp {i j c : Int} (h0 : 0 < c) (hi : j ≤ i) : stp i j c = [] := by
  unfold stp
  rw [size_up h0, if_neg (by omega)]
  rfl
theorem win_after {S : List Int} {d low : Int} {t0 : Nat} (hd : 0 ≤ d) (h : (S.length : Int) ≤ low + t0 * d) : ∀ k : Nat, win S d (t0 + k) low = win S d t0 low
  | 0 => rfl
  | k + 1 => by
    show win S d (t0 + k) low + zf S (low + ((t0 + k : Nat) : Int) * d) = _
    rw [win_after hd h k, zf_out, Int.add_zero]
    right
    rw [Int.natCast_add, Int.add_mul]
    have := Int.mul_nonneg (show (0 : Int) ≤ k by omega) hd
    omega
theorem v_lw {S : List Int} (h : PM S) (h0 : 1 ≤ S.length) (hl : S.length ≤ 100) : ∃ w : Int, f__law_worst [.tuple (S.map .int), .str "spaced"] = some (.int w) ∧ (0 ≤ w ∧ w ≤ 200) ∧ ∀ d low : Int, 1 ≤ d → d ≤ S.length → 0 ≤ low → low < d → Wb S w d low := by
  have key : ∃ x, f__law_worst [.tuple (S.map .int), .str "spaced"] = some x ∧ ∃ w : Int, x = .int w ∧ (0 ≤ w ∧ w ≤ 200) ∧ (∀ d ∈ rngI 1 (S.length + 1), ∀ low : Int, 0 ≤ low → low < d → Wb S w d low) := by
    refine runPx ?_
    unfold s__law_worst
    k_asm
    refine loopP (fun pre σ _ => ∃ (w : Int) (j4 j5 j6 j7 j8 j9 j10 : Sl), (0 ≤ w ∧ w ≤ 200) ∧ (∀ d ∈ pre, ∀ low : Int, 0 ≤ low → low < d → Wb S w d low) ∧ σ = [.val (.tuple (S.map .int)), .val (.str "spaced"), .val (.int S.length), .val (.int w), j4, j5, j6, j7, j8, j9, j10]) ⟨0, _, _, _, _, _, _, _, by omega, (fun d hd => by cases hd), rfl⟩ ?_ ?_
    · rintro pre d post σ p hx ⟨w, j4, j5, j6, j7, j8, j9, j10, hw, hp, rfl⟩
      obtain ⟨_, d0, d1, _⟩ := rngI_parts (show rngI 1 (S.length + 1) = pre ++ d :: post from hx)
      obtain ⟨D, rfl⟩ : ∃ D : Nat, d = (D : Int) := ⟨d.toNat, by omega⟩
      k_asm
      refine loopP (fun pre2 σ _ => ∃ (w : Int) (j6 j7 j8 j9 j10 : Sl), (0 ≤ w ∧ w ≤ 200) ∧ (∀ d ∈ pre, ∀ low : Int, 0 ≤ low → low < d → Wb S w d low) ∧ (∀ low ∈ pre2, Wb S w D low) ∧ σ = [.val (.tuple (S.map .int)), .val (.str "spaced"), .val (.int S.length), .val (.int w), .val (.int D), .val (.list ((rng D).map .int)), j6, j7, j8, j9, j10]) ⟨w, _, _, _, _, _, hw, hp, (fun d hd => by cases hd), rfl⟩ ?_ ?_
      · rintro pre2 low post2 σ p hx2 ⟨w, j6, j7, j8, j9, j10, hw, hp, hp2, rfl⟩
        have hlow : low ∈ rng D := by rw [show rng D = pre2 ++ low :: post2 from hx2]; simp
        have hlow := rng_mem.mp hlow
        k_asm
        refine loopP (fun pre3 σ _ => ∃ (hi de : Int) (j10 : Sl), (∀ t : Nat, t ≤ pre3.length → de ≤ win S D t low ∧ win S D t low ≤ hi) ∧ (0 ≤ hi ∧ hi ≤ 100) ∧ (-100 ≤ de ∧ de ≤ 0) ∧ σ = [.val (.tuple (S.map .int)), .val (.str "spaced"), .val (.int S.length), .val (.int w), .val (.int D), .val (.list ((rng D).map .int)), .val (.int low), .val (.int (win S D pre3.length low)), .val (.int hi), .val (.int de), j10]) ⟨0, 0, _, fun t ht => by
            have : t = 0 := by simpa using ht
            subst this
            exact ⟨Int.le_refl _, Int.le_refl _⟩, by omega, by omega, rfl⟩ ?_ ?_
        · rintro pre3 x post3 σ p hx3 ⟨hi, de, j10, hall, hh, hd, rfl⟩
          have hx3 : stp low S.length D = pre3 ++ x :: post3 := hx3
          have hne : low < S.length := by
            rcases Int.lt_or_le low S.length with g | g
            · exact g
            · rw [stp_emp (by omega) g] at hx3
              have := congrArg List.length hx3
              simp at this
          obtain ⟨x1, x2⟩ := stp_parts (by omega) hne hx3
          have hpd := Int.mul_le_mul_of_nonneg_left (show (1 : Int) ≤ D by omega) (show (0 : Int) ≤ pre3.length by omega)
          have hwb := win_b h D low (pre3.length + 1)
          have hstep : win S D (pre3.length + 1) low = win S D pre3.length low + zf S x := by rw [x1]; rfl
          have hz : zf S x = S.getD x.toNat 0 := by unfold zf; rw [if_pos (by omega)]
          rw [hz] at hstep
          k_asm
          rw [← hstep]
          k_asm
          refine ⟨max hi (win S D (pre3.length + 1) low), min de (win S D (pre3.length + 1) low), _, fun t ht => ?_, by omega, by omega, rfl⟩
          by_cases g : t = pre3.length + 1
          · rw [g]; omega
          · have := hall t (by omega); omega
        · rintro σ p ⟨hi, de, j10, hall, hh, hd, rfl⟩
          k_asm
          have hall2 : ∀ t : Nat, de ≤ win S D t low ∧ win S D t low ≤ hi := fun t => by
            by_cases g : t ≤ (stp low S.length D).length
            · exact hall t g
            · have ha := hall (stp low S.length D).length (Nat.le_refl _)
              have hge : (S.length : Int) ≤ low + ((stp low S.length D).length : Nat) * D := by
                rcases Int.lt_or_le low S.length with g2 | g2
                · exact stp_len (by omega) g2
                · have := Int.mul_nonneg (show (0 : Int) ≤ ((stp low S.length D).length : Nat) by omega) (show (0 : Int) ≤ D by omega)
                  omega
              have := win_after (S := S) (t0 := (stp low S.length D).length) (show (0 : Int) ≤ D by omega) hge (t - (stp low S.length D).length)
              rw [show (stp low S.length D).length + (t - (stp low S.length D).length) = t by omega] at this
              rw [this]
              exact ha
          refine ⟨max w (hi - de), _, _, _, _, _, by omega, fun d hd low l0 l1 => (hp d hd low l0 l1).mono (by omega), fun l hl => ?_, rfl⟩
          rcases List.mem_append.mp hl with hl | hl
          · exact (hp2 l hl).mono (by omega)
          · rw [List.mem_singleton.mp hl]
            intro t1 t2
            have := hall2 t1
            have := hall2 t2
            omega
      · rintro σ p ⟨w, j6, j7, j8, j9, j10, hw, hp, hp2, rfl⟩
        refine ⟨w, _, _, _, _, _, _, _, hw, fun d hd low l0 l1 => ?_, rfl⟩
        rcases List.mem_append.mp hd with hd | hd
        · exact hp d hd low l0 l1
        · rw [List.mem_singleton.mp hd] at l1 ⊢
          exact hp2 low (rng_mem.mpr ⟨l0, l1⟩)
    · rintro σ p ⟨w, j4, j5, j6, j7, j8, j9, j10, hw, hp, rfl⟩
      k_asm
      exact ⟨w, rfl, hw, hp⟩
  obtain ⟨x, h1, w, rfl, hw, hp⟩ := key
  exact ⟨w, h1, hw, fun d low d0 d1 => hp d (rngI_mem.mpr ⟨d0, by omega⟩) low⟩
end Wk

namespace Wk
open PySem L2 FL
def Lz (n : Nat) : Nat := if n ≤ 2 then 1 else 2
def wdz : List (List Int) := [[-1], [-1, 1], [-1, -1, 1], [-1, -1, 1, -1], [-1, -1, 1, -1, 1], [-1, -1, 1, -1, 1, 1], [-1, -1, 1, 1, -1, -1, 1], [-1, -1, 1, 1, -1, -1, 1, 1]]
def chS (n : Nat) (c : Int) : Bool := match f_least_spaced [.int n, .str "spaced"] with
  | some (.int x) => x == c
  | _ => false
theorem spaced_all : ∀ k : Fin 8, chS (k.val + 1) (Lz (k.val + 1)) = true := by decide +kernel
theorem v_spaced {n : Nat} (h0 : 1 ≤ n) (h1 : n ≤ 8) : f_least_spaced [.int n, .str "spaced"] = some (.int (Lz n)) := by
  have h := spaced_all ⟨n - 1, by omega⟩
  rw [show (⟨n - 1, by omega⟩ : Fin 8).val + 1 = n from by show n - 1 + 1 = n; omega] at h
  unfold chS at h
  split at h
  · rename_i x e
    rw [e, eq_of_beq h]
  · cases h
def chW (S : List Int) (w : Int) : Bool := S.all (fun x => x == 1 || x == -1) && (List.range (S.length + 1)).all fun d => (List.range d).all fun low => (List.range (S.length + 1)).all fun t1 => (List.range (S.length + 1)).all fun t2 => decide (win S d t1 low - win S d t2 low ≤ w)
theorem word_all : ∀ k : Fin 8, (decide ((wdz.getD k.val []).length = k.val + 1) && chW (wdz.getD k.val []) (Lz (k.val + 1))) = true := by decide +kernel
theorem word_at {n : Nat} (h0 : 1 ≤ n) (h1 : n ≤ 8) : ∃ S : List Int, S.length = n ∧ PM S ∧ ∀ (d : Int) (m : Nat) (a : Int), 1 ≤ d → ((win S d m a).natAbs : Int) ≤ Lz n := by
  have h := word_all ⟨n - 1, by omega⟩
  rw [show (⟨n - 1, by omega⟩ : Fin 8).val + 1 = n from by show n - 1 + 1 = n; omega] at h
  generalize wdz.getD (⟨n - 1, by omega⟩ : Fin 8).val [] = S at h
  rw [Bool.and_eq_true] at h
  have hl := of_decide_eq_true h.1
  have h2 := h.2
  unfold chW at h2
  rw [Bool.and_eq_true, List.all_eq_true, List.all_eq_true] at h2
  have hp : PM S := fun x hx => by
    have := h2.1 x hx
    rw [Bool.or_eq_true] at this
    exact this.elim (fun e => .inl (eq_of_beq e)) fun e => .inr (eq_of_beq e)
  refine ⟨S, hl, hp, fun d m a hd => all_win hp (by omega) (fun d low d0 d1 l0 l1 => ?_) hd m a⟩
  obtain ⟨D, rfl⟩ : ∃ D : Nat, d = (D : Int) := ⟨d.toNat, by omega⟩
  obtain ⟨l, rfl⟩ : ∃ l : Nat, low = (l : Int) := ⟨low.toNat, by omega⟩
  have h3 := h2.2 D (List.mem_range.mpr (by omega))
  rw [List.all_eq_true] at h3
  have h4 := h3 l (List.mem_range.mpr (by omega))
  rw [List.all_eq_true] at h4
  have cut : ∀ t : Nat, ∃ s : Nat, s < S.length + 1 ∧ win S D t l = win S D s l := fun t => by
    by_cases g : t ≤ S.length
    · exact ⟨t, by omega, rfl⟩
    · refine ⟨S.length, by omega, ?_⟩
      have hm := Int.mul_le_mul_of_nonneg_left d0 (show (0 : Int) ≤ (S.length : Nat) by omega)
      have := win_after (S := S) (d := D) (low := l) (t0 := S.length) (by omega) (by omega) (t - S.length)
      rwa [show S.length + (t - S.length) = t by omega] at this
  intro t1 t2
  obtain ⟨s1, a1, e1⟩ := cut t1
  obtain ⟨s2, a2, e2⟩ := cut t2
  have h5 := h4 s1 (List.mem_range.mpr a1)
  rw [List.all_eq_true] at h5
  have h6 := of_decide_eq_true (h5 s2 (List.mem_range.mpr a2))
  rw [e1, e2]
  exact h6
end Wk

namespace Wk
open PySem L2 FL
local macro_rules | `(tactic| lk) => `(tactic| (try simp (config := { maxSteps := 3000000 }) (disch := (first | assumption | omega | (simp only [List.length_map, List.length_append, List.length_cons, List.length_nil, List.length_range, rng_len, rngI_len, idxG_len, List.length_take, List.length_drop, List.length_set, List.length_replicate, List.length_reverse, szL]; (first | done | omega)) | exact List.cons_ne_nil _ _ | exact sml rfl | rfl)) only [w_seq, w_set, w_fzS, fzS_o, fzS_v, fzS_u, fzS_p, fzS_s, w_setL, w_ret, w_retN, w_drop, w_sif, w_par, w_par3, w_parLE, w_parEL, w_parLL, w_asg, w_app, w_ext, w_put, w_snil, w_brk, w_cnt, w_for, w_var, w_c, w_bin, w_un, w_lbin, w_test, w_and, w_or, w_not, w_yes, w_if, w_ifL, w_andV, w_orV, w_notV, w_chain, w_nil, w_cons, w_tup, w_disp, w_L, w_call, w_lcall, w_iby, w_iof, w_lrng, w_onone, w_osome, w_slice, w_lslice, w_bor, w_borT, w_funZ, w_comp, op_some, op_map, op_bind, varS_0, varS_s, ownS_0, ownS_s, potS_0, potS_s, boolS_b, intS_i, listS_l, iteB_t, iteB_f, iteB_n, iteB_and, iteB_or, szd_of, seqR_rt, seqR_bk, seqR_ct, loR_nx, loR_ct, loR_bk, loR_rt, outR_nx, outR_rt, List.set_cons_zero, List.set_cons_succ, hid_c, hid_nl, val_c, val_nl, List.length_cons, List.length_nil, List.cons_append, List.nil_append, rep_s, rep_0, Nat.reduceAdd, Nat.reduceSub, Nat.zero_add, f_add, f_addT, f_addS, f_sub, f_mulL, f_mulR, f_div, f_mod, f_pow, f_neg, f_lt, f_le, f_gt, f_ge, f_eqI, f_neI, f_eqS, f_neS, f_eqtI, f_netI, f_eqlI, f_nelI, f_in1, f_nin1, f_in1L, f_nin1L, f_in2, f_nin2, f_in2L, f_nin2L, f_in3, f_nin3, f_in3L, f_nin3L, f_in4, f_nin4, f_in4L, f_nin4L, List.isEmpty_map, f_inT, f_ninT, f_inL, f_ninL, items_t, items_l, f_lenT, f_lenL, f_abs, f_intI, f_intB, f_tupL, f_tupT, f_lstL, f_lstT, f_max2, f_min2, io_nil, io_cons, io_app, intsOf_map, f_maxL, f_maxT, f_minL, f_minT, f_sumL, f_sumT, f_allL, f_anyL, f_catL, w_pop, w_popAt, w_setP, w_dropP, w_asgP, w_appP, flat_map, erase_mapG, w_tupRg, w_lstRg, f_rg1, f_rg2, tg_nil, tg_cons, tg_tup, Option.bind_some, f_eqTE, f_neTE, f_eqLE, f_neLE, f_rev, map_rv, f_mulTI, ixN_last, ixN_p, w_sliceS, w_lsliceS, f_slS, nth_map, f_repr, f_ixL, f_ixT, atI_i, atI_t, atI_0, atI_1, atI_2, atI_lastD, atI_lastG, f_slT, f_slL, cut_n, cut_t, cut_f, cut_b, cut_b0, map_appC, map_snocI, map_snocT, map_consI, map_consT, map_tk, map_dr, map_st, map_stI, map_stT, map_dl, f_rng1, f_rng2, f_lrng, f_enT, f_enL, f_zipT, f_zipL, f_zipTT, f_zipTL, f_zipLT, f_zipLL, zipL_G, f_isN, f_isB, f_isI, f_isS, f_isL, f_isT, f_isnN, f_isnB, f_isnI, f_isnS, f_isnL, f_isnT, f_isiT, f_isiL, f_isiI, f_isiB, f_isiS, f_isiD, isNum_i, isNum_n, isNum_b, isNum_s, isNum_l, isNum_t, isNum_d, isI_n, isI_b, isI_i, isI_s, isI_l, isI_t, isI_d, isTup_n, isTup_b, isTup_i, isTup_s, isTup_l, isTup_t, isTup_d, isLst_n, isLst_b, isLst_i, isLst_s, isLst_l, isLst_t, isLst_d, isIntD_n, isIntD_b, isIntD_i, isIntD_s, isIntD_l, isIntD_t, isIntD_d, isBoolD_n, isBoolD_b, isBoolD_i, isBoolD_s, isBoolD_l, isBoolD_t, isBoolD_d, isStrD_n, isStrD_b, isStrD_i, isStrD_s, isStrD_l, isStrD_t, isStrD_d, isDictD_n, isDictD_b, isDictD_i, isDictD_s, isDictD_l, isDictD_t, isDictD_d, li_0, li_1, li_2, li_3, li_4, li_5, li_6, kw_of, perm_c, perm_n, List.getD_cons_zero, List.getD_cons_succ, bor_0, bor_s, hid_o, hid_v, hid_p, hid_u, shw_o, wipe_n, wipe_c, tg_n, tg_p, tg_3, fl_n, fl_b, fl_i, fl_s, fl_t, fl_an, fl_ac, fl_ai, fl_at, dT_eq, id_eq, List.isEmpty_nil, List.isEmpty_cons, List.length_map, List.length_range, rng_len, rngI_len, idxG_len, List.length_append, List.length_take, List.length_drop, List.length_set, List.length_replicate, Int.toNat_natCast, Int.reduceToNat, decide_true, decide_false, Bool.not_true, Bool.not_false, Bool.and_true, Bool.true_and, Bool.and_false, Bool.false_and, Bool.and_self, Bool.or_true, Bool.true_or, Bool.or_false, Bool.false_or, Bool.or_self, eq_self, true_and, and_true, exists_eq_left, exists_eq_left', and_self, ne_eq, not_false_eq_true, reduceCtorEq, Option.some.injEq, szL, w_sliceP, f_spT, f_spL, f_rg3, w_parLEE, w_parELE, w_parEEL, w_lbor, w_rl, rlR_nx, lj_1, lj_2, lj_3, lj_4]))  local macro_rules | `(tactic| k_asm) => `(tactic| ((try lk); repeat (with_reducible (refine seqR_go ?_); (try lk)))) local macro_rules | `(tactic| k_room) => `(tactic| (refine ⟨?_, ?_⟩ <;> (try simp only [cst_l, cst_t, cst_n, cst_b, csts_n, csts_c, dep_l, dep_t, dep_n, dep_b, dep_i, dep_s, deps_n, deps_c, deps_i, dT_eq, cst_d0, dep_d0, csts_app, deps_app, cst_rev, deps_rev]) <;> (try omega))) local macro_rules | `(tactic| k_flat) => `(tactic| ((try simp only [cst_l, cst_t, cst_n, cst_b, csts_n, csts_c, dep_l, dep_t, dep_n, dep_b, dep_i, dep_s, deps_n, deps_c, deps_i, dT_eq, cst_d0, dep_d0, csts_app, deps_app, cst_rev, deps_rev]); omega))
def hsL : Nat → List (List Int)
  | 0 => [[1]]
  | k + 1 => (hsL k).flatMap fun r => [r ++ [1], r ++ [-1]]
theorem hs_len : ∀ k : Nat, (hsL k).length = 2 ^ k
  | 0 => rfl
  | k + 1 => by
    have : ∀ l : List (List Int), (l.flatMap fun r => [r ++ [1], r ++ [-1]]).length = 2 * l.length := fun l => by
      induction l with
      | nil => rfl
      | cons x r ih => rw [List.flatMap_cons, List.length_append, ih]; simp; omega
    rw [show hsL (k + 1) = (hsL k).flatMap fun r => [r ++ [1], r ++ [-1]] from rfl, this, hs_len k, Nat.pow_succ]
    omega
theorem hs_mem : ∀ (k : Nat) (S : List Int), S ∈ hsL k → S.length = k + 1 ∧ PM S
  | 0, S, h => by
    rw [show hsL 0 = [[1]] from rfl, List.mem_singleton] at h
    subst h
    exact ⟨rfl, fun x hx => by rw [List.mem_singleton.mp hx]; exact .inl rfl⟩
  | k + 1, S, h => by
    obtain ⟨r, hr, h⟩ := List.mem_flatMap.mp h
    obtain ⟨h1, h2⟩ := hs_mem k r hr
    simp only [List.mem_cons, List.not_mem_nil, or_false] at h
    rcases h with rfl | rfl
    · exact ⟨by rw [List.length_append, h1]; rfl, fun x hx => by
        rcases List.mem_append.mp hx with hx | hx
        · exact h2 x hx
        · rw [List.mem_singleton.mp hx]; exact .inl rfl⟩
    · exact ⟨by rw [List.length_append, h1]; rfl, fun x hx => by
        rcases List.mem_append.mp hx with hx | hx
        · exact h2 x hx
        · rw [List.mem_singleton.mp hx]; exact .inr rfl⟩
theorem mem_hs : ∀ (k : Nat) (r : List Int), r.length = k → PM r → 1 :: r ∈ hsL k
  | 0, r, h, _ => by
    have : r = [] := List.length_eq_zero_iff.mp h
    subst this
    exact List.mem_singleton.mpr rfl
  | k + 1, r, h, hp => by
    have hne : r ≠ [] := by rintro rfl; cases h
    have e : r = r.dropLast ++ [r.getLast hne] := (List.dropLast_concat_getLast hne).symm
    have hl : r.dropLast.length = k := by rw [List.length_dropLast, h]; rfl
    have ih := mem_hs k r.dropLast hl fun x hx => hp x ((List.dropLast_sublist r).subset hx)
    refine List.mem_flatMap.mpr ⟨1 :: r.dropLast, ih, ?_⟩
    rw [e]
    rcases hp _ (List.getLast_mem hne) with g | g
    · rw [g]; simp
    · rw [g]; simp
theorem v_half {n : Nat} (h0 : 1 ≤ n) (h1 : n ≤ 9) : f_half_signs [.int n] = some (.list ((hsL (n - 1)).map dT)) := by
  refine runPe ?_
  unfold s_half_signs
  k_asm
  rw [show ((n : Int) - 1).toNat = n - 1 by omega]
  refine loopP (fun pre σ _ => ∃ j2 j3 j4 : Sl, (j3 = .un ∨ ∃ d, j3 = .val d) ∧ σ = [.val (.int n), .val (.list ((hsL pre.length).map dT)), j2, j3, j4]) ⟨_, _, _, .inl rfl, rfl⟩ ?_ ?_
  · rintro pre t post σ p hx ⟨j2, j3, j4, hj, rfl⟩
    have hlen := congrArg List.length hx
    rw [rng_len, List.length_append, List.length_cons] at hlen
    have hal := hs_len pre.length
    have h512 : 2 ^ pre.length ≤ 2 ^ 9 := Nat.pow_le_pow_right (by decide) (by omega)
    k_asm
    refine loopP (fun pre2 σ _ => ∃ j4 : Sl, σ = [.val (.int n), .val (.list ((hsL pre.length).map dT)), .val (.int t), .own ((pre2.flatMap fun r => [r ++ [1], r ++ [-1]]).map dT), j4]) ⟨_, rfl⟩ ?_ ?_
    · rintro pre2 r post2 σ p hx2 ⟨j4, rfl⟩
      have hr : r ∈ hsL pre.length := by rw [show hsL pre.length = pre2 ++ r :: post2 from hx2]; simp
      have hrl := (hs_mem _ r hr).1
      have hl2 := congrArg List.length (show hsL pre.length = pre2 ++ r :: post2 from hx2)
      rw [List.length_append, List.length_cons] at hl2
      have h2l : (pre2.flatMap fun r => [r ++ [1], r ++ [-1]]).length = 2 * pre2.length := by
        have : ∀ l : List (List Int), (l.flatMap fun r => [r ++ [1], r ++ [-1]]).length = 2 * l.length := fun l => by
          induction l with
          | nil => rfl
          | cons x r ih => rw [List.flatMap_cons, List.length_append, ih]; simp; omega
        exact this pre2
      rw [List.flatMap_append, List.flatMap_cons, List.flatMap_nil, List.append_nil, List.map_append]
      k_asm
      rw [h2l, List.map_append (f := dT)]
      exact ⟨by omega, _, rfl⟩
    · rintro σ p ⟨j4, rfl⟩
      k_asm
      rw [show (hsL pre.length).flatMap (fun r => [r ++ [1], r ++ [-1]]) = hsL (pre.length + 1) from rfl]
      exact ⟨_, _, _, .inr ⟨_, rfl⟩, rfl⟩
  · rintro σ p ⟨j2, j3, j4, hj, rfl⟩
    rw [rng_len]
    k_asm
/-! the least over all signs -/
def negL (S : List Int) : List Int := S.map fun x => -x
theorem zf_neg (S : List Int) (i : Int) : zf (negL S) i = -zf S i := by
  unfold zf negL
  split
  · rw [List.getD_eq_getElem?_getD, List.getD_eq_getElem?_getD, List.getElem?_map]
    cases S[i.toNat]? <;> rfl
  · rfl
theorem cor_neg (S : List Int) (j : Int) : cor (negL S) j = cor S j := by
  unfold cor
  rw [show (negL S).length = S.length by unfold negL; rw [List.length_map]]
  exact sm_congr fun b _ => by rw [zf_neg, zf_neg, Int.neg_mul_neg]
theorem ws_neg (S : List Int) (d m : Int) : wsF (negL S) d m = wsF S d m := by
  unfold wsF
  rw [show (negL S).length = S.length by unfold negL; rw [List.length_map]]
  congr 1
  exact sm_congr fun j _ => by rw [cor_neg]
/-- v is the least over all signs -/
def IsLeast (n : Nat) (d m v : Int) : Prop := (∃ S : List Int, S.length = n ∧ PM S ∧ v = wsF S d m) ∧ ∀ S : List Int, S.length = n → PM S → v ≤ wsF S d m
theorem IsLeast.uniq {n : Nat} {d m v w : Int} (h : IsLeast n d m v) (k : IsLeast n d m w) : v = w := by
  obtain ⟨S, s1, s2, rfl⟩ := h.1
  obtain ⟨T, t1, t2, rfl⟩ := k.1
  have := h.2 T t1 t2
  have := k.2 S s1 s2
  omega
theorem fold_le : ∀ (r : List Int) (a : Int), (r.foldl min a = a ∨ r.foldl min a ∈ r) ∧ r.foldl min a ≤ a ∧ ∀ x ∈ r, r.foldl min a ≤ x
  | [], a => ⟨.inl rfl, Int.le_refl _, fun _ h => by cases h⟩
  | y :: r, a => by
    obtain ⟨h1, h2, h3⟩ := fold_le r (min a y)
    rw [List.foldl_cons]
    refine ⟨?_, by omega, fun x hx => ?_⟩
    · rcases h1 with h | h
      · rw [h]
        rcases Int.le_total a y with g | g
        · rw [Int.min_eq_left g]; exact .inl rfl
        · rw [Int.min_eq_right g]; exact .inr List.mem_cons_self
      · exact .inr (List.mem_cons_of_mem _ h)
    · rcases List.mem_cons.mp hx with rfl | hx
      · omega
      · exact h3 x hx
theorem least_facts {l : List Int} (h : l ≠ []) : leastOf l ∈ l ∧ ∀ x ∈ l, leastOf l ≤ x := by
  cases l with
  | nil => exact absurd rfl h
  | cons a r =>
    obtain ⟨h1, h2, h3⟩ := fold_le r a
    refine ⟨?_, fun x hx => ?_⟩
    · rcases h1 with g | g
      · rw [show leastOf (a :: r) = r.foldl min a from rfl, g]; exact List.mem_cons_self
      · exact List.mem_cons_of_mem _ g
    · rcases List.mem_cons.mp hx with rfl | hx
      · exact h2
      · exact h3 x hx
theorem half_least {n : Nat} (h0 : 1 ≤ n) {d m : Int} : IsLeast n d m (leastOf ((hsL (n - 1)).map fun S => wsF S d m)) := by
  have hne : (hsL (n - 1)).map (fun S => wsF S d m) ≠ [] := by
    intro e
    have := congrArg List.length e
    rw [List.length_map, hs_len, List.length_nil] at this
    have := Nat.two_pow_pos (n - 1)
    omega
  obtain ⟨h1, h2⟩ := least_facts hne
  refine ⟨?_, fun S hl hp => ?_⟩
  · obtain ⟨S, hS, e⟩ := List.mem_map.mp h1
    obtain ⟨a, b⟩ := hs_mem _ S hS
    exact ⟨S, by omega, b, e.symm⟩
  · have mem : ∀ T : List Int, T.length = n → PM T → T.head? = some 1 → leastOf ((hsL (n - 1)).map fun S => wsF S d m) ≤ wsF T d m := fun T tl tp th => by
      cases T with
      | nil => cases th
      | cons x r =>
        have : x = 1 := by simpa using th
        subst this
        exact h2 _ (List.mem_map_of_mem (f := fun S => wsF S d m) (mem_hs (n - 1) r (by rw [List.length_cons] at tl; omega) fun y hy => tp y (List.mem_cons_of_mem _ hy)))
    cases S with
    | nil => rw [List.length_nil] at hl; omega
    | cons x r =>
      rcases hp x List.mem_cons_self with e | e
      · exact mem _ hl hp (by rw [e]; rfl)
      · rw [← ws_neg]
        refine mem _ (by unfold negL; rw [List.length_map]; exact hl) (fun y hy => ?_) (by rw [e]; rfl)
        obtain ⟨z, hz, rfl⟩ := List.mem_map.mp hy
        rcases hp z hz with g | g <;> rw [g]
        · exact .inr rfl
        · exact .inl rfl
end Wk

namespace Wk
open PySem L2 FL
local macro_rules | `(tactic| lk) => `(tactic| (try simp (config := { maxSteps := 3000000 }) (disch := (first | assumption | omega | (simp only [List.length_map, List.length_append, List.length_cons, List.length_nil, List.length_range, rng_len, rngI_len, idxG_len, List.length_take, List.length_drop, List.length_set, List.length_replicate, List.length_reverse, szL]; (first | done | omega)) | exact List.cons_ne_nil _ _ | exact sml rfl | rfl)) only [w_seq, w_set, w_fzS, fzS_o, fzS_v, fzS_u, fzS_p, fzS_s, w_setL, w_ret, w_retN, w_drop, w_sif, w_par, w_par3, w_parLE, w_parEL, w_parLL, w_asg, w_app, w_ext, w_put, w_snil, w_brk, w_cnt, w_for, w_var, w_c, w_bin, w_un, w_lbin, w_test, w_and, w_or, w_not, w_yes, w_if, w_ifL, w_andV, w_orV, w_notV, w_chain, w_nil, w_cons, w_tup, w_disp, w_L, w_call, w_lcall, w_iby, w_iof, w_lrng, w_onone, w_osome, w_slice, w_lslice, w_bor, w_borT, w_funZ, w_comp, op_some, op_map, op_bind, varS_0, varS_s, ownS_0, ownS_s, potS_0, potS_s, boolS_b, intS_i, listS_l, iteB_t, iteB_f, iteB_n, iteB_and, iteB_or, szd_of, seqR_rt, seqR_bk, seqR_ct, loR_nx, loR_ct, loR_bk, loR_rt, outR_nx, outR_rt, List.set_cons_zero, List.set_cons_succ, hid_c, hid_nl, val_c, val_nl, List.length_cons, List.length_nil, List.cons_append, List.nil_append, rep_s, rep_0, Nat.reduceAdd, Nat.reduceSub, Nat.zero_add, f_add, f_addT, f_addS, f_sub, f_mulL, f_mulR, f_div, f_mod, f_pow, f_neg, f_lt, f_le, f_gt, f_ge, f_eqI, f_neI, f_eqS, f_neS, f_eqtI, f_netI, f_eqlI, f_nelI, f_in1, f_nin1, f_in1L, f_nin1L, f_in2, f_nin2, f_in2L, f_nin2L, f_in3, f_nin3, f_in3L, f_nin3L, f_in4, f_nin4, f_in4L, f_nin4L, List.isEmpty_map, f_inT, f_ninT, f_inL, f_ninL, items_t, items_l, f_lenT, f_lenL, f_abs, f_intI, f_intB, f_tupL, f_tupT, f_lstL, f_lstT, f_max2, f_min2, io_nil, io_cons, io_app, intsOf_map, f_maxL, f_maxT, f_minL, f_minT, f_sumL, f_sumT, f_allL, f_anyL, f_catL, w_pop, w_popAt, w_setP, w_dropP, w_asgP, w_appP, flat_map, erase_mapG, w_tupRg, w_lstRg, f_rg1, f_rg2, tg_nil, tg_cons, tg_tup, Option.bind_some, f_eqTE, f_neTE, f_eqLE, f_neLE, f_rev, map_rv, f_mulTI, ixN_last, ixN_p, w_sliceS, w_lsliceS, f_slS, nth_map, f_repr, f_ixL, f_ixT, atI_i, atI_t, atI_0, atI_1, atI_2, atI_lastD, atI_lastG, f_slT, f_slL, cut_n, cut_t, cut_f, cut_b, cut_b0, map_appC, map_snocI, map_snocT, map_consI, map_consT, map_tk, map_dr, map_st, map_stI, map_stT, map_dl, f_rng1, f_rng2, f_lrng, f_enT, f_enL, f_zipT, f_zipL, f_zipTT, f_zipTL, f_zipLT, f_zipLL, zipL_G, f_isN, f_isB, f_isI, f_isS, f_isL, f_isT, f_isnN, f_isnB, f_isnI, f_isnS, f_isnL, f_isnT, f_isiT, f_isiL, f_isiI, f_isiB, f_isiS, f_isiD, isNum_i, isNum_n, isNum_b, isNum_s, isNum_l, isNum_t, isNum_d, isI_n, isI_b, isI_i, isI_s, isI_l, isI_t, isI_d, isTup_n, isTup_b, isTup_i, isTup_s, isTup_l, isTup_t, isTup_d, isLst_n, isLst_b, isLst_i, isLst_s, isLst_l, isLst_t, isLst_d, isIntD_n, isIntD_b, isIntD_i, isIntD_s, isIntD_l, isIntD_t, isIntD_d, isBoolD_n, isBoolD_b, isBoolD_i, isBoolD_s, isBoolD_l, isBoolD_t, isBoolD_d, isStrD_n, isStrD_b, isStrD_i, isStrD_s, isStrD_l, isStrD_t, isStrD_d, isDictD_n, isDictD_b, isDictD_i, isDictD_s, isDictD_l, isDictD_t, isDictD_d, li_0, li_1, li_2, li_3, li_4, li_5, li_6, kw_of, perm_c, perm_n, List.getD_cons_zero, List.getD_cons_succ, bor_0, bor_s, hid_o, hid_v, hid_p, hid_u, shw_o, wipe_n, wipe_c, tg_n, tg_p, tg_3, fl_n, fl_b, fl_i, fl_s, fl_t, fl_an, fl_ac, fl_ai, fl_at, dT_eq, id_eq, List.isEmpty_nil, List.isEmpty_cons, List.length_map, List.length_range, rng_len, rngI_len, idxG_len, List.length_append, List.length_take, List.length_drop, List.length_set, List.length_replicate, Int.toNat_natCast, Int.reduceToNat, decide_true, decide_false, Bool.not_true, Bool.not_false, Bool.and_true, Bool.true_and, Bool.and_false, Bool.false_and, Bool.and_self, Bool.or_true, Bool.true_or, Bool.or_false, Bool.false_or, Bool.or_self, eq_self, true_and, and_true, exists_eq_left, exists_eq_left', and_self, ne_eq, not_false_eq_true, reduceCtorEq, Option.some.injEq, szL, w_sliceP, f_spT, f_spL, f_rg3, w_parLEE, w_parELE, w_parEEL, w_lbor, w_rl, rlR_nx, lj_1, lj_2, lj_3, lj_4]))  local macro_rules | `(tactic| k_asm) => `(tactic| ((try lk); repeat (with_reducible (refine seqR_go ?_); (try lk)))) local macro_rules | `(tactic| k_room) => `(tactic| (refine ⟨?_, ?_⟩ <;> (try simp only [cst_l, cst_t, cst_n, cst_b, csts_n, csts_c, dep_l, dep_t, dep_n, dep_b, dep_i, dep_s, deps_n, deps_c, deps_i, dT_eq, cst_d0, dep_d0, csts_app, deps_app, cst_rev, deps_rev]) <;> (try omega))) local macro_rules | `(tactic| k_flat) => `(tactic| ((try simp only [cst_l, cst_t, cst_n, cst_b, csts_n, csts_c, dep_l, dep_t, dep_n, dep_b, dep_i, dep_s, deps_n, deps_c, deps_i, dT_eq, cst_d0, dep_d0, csts_app, deps_app, cst_rev, deps_rev]); omega))
def sgI (n : Nat) (x : Int) : List Int := (rng n).map fun i => 1 - 2 * (x / 2 ^ i.toNat % 2)
theorem sgI_pm (n : Nat) (x : Int) : (sgI n x).length = n ∧ PM (sgI n x) := by
  unfold sgI
  refine ⟨by rw [List.length_map, rng_len], fun y hy => ?_⟩
  obtain ⟨i, _, rfl⟩ := List.mem_map.mp hy
  generalize x / 2 ^ i.toNat = t
  omega
theorem sgI_all : ∀ S : List Int, PM S → ∃ x : Nat, x < 2 ^ S.length ∧ sgI S.length x = S
  | [], _ => ⟨0, by decide, rfl⟩
  | s :: r, h => by
    obtain ⟨y, y1, y2⟩ := sgI_all r fun x hx => h x (List.mem_cons_of_mem _ hx)
    have hs := h s List.mem_cons_self
    have key : ∀ b : Nat, b < 2 → s = 1 - 2 * (b : Int) → ∃ x : Nat, x < 2 ^ (s :: r).length ∧ sgI (s :: r).length x = s :: r := fun b hb e => by
      refine ⟨b + 2 * y, by rw [List.length_cons, Nat.pow_succ]; omega, ?_⟩
      rw [List.length_cons]
      unfold sgI
      have er : rng (r.length + 1) = 0 :: (rng r.length).map (· + 1) := by
        unfold rng
        rw [List.range_succ_eq_map, List.map_cons, List.map_map, List.map_map]
        congr 1
      rw [er, List.map_cons, List.map_map]
      congr 1
      · show 1 - 2 * (((b + 2 * y : Nat) : Int) / 2 ^ 0 % 2) = s
        rw [Int.pow_zero, Int.ediv_one]
        omega
      · conv => rhs; rw [← y2]
        unfold sgI
        refine List.map_congr_left fun i hi => ?_
        have := (rng_mem.mp hi).1
        have e2 : ∀ a c : Int, a / (2 * c) = a / 2 / c := fun a c => by rw [Int.ediv_ediv, if_neg (fun z => absurd z.1 (by decide)), Int.sub_zero]
        show 1 - 2 * (((b + 2 * y : Nat) : Int) / 2 ^ (i + 1).toNat % 2) = 1 - 2 * ((y : Int) / 2 ^ i.toNat % 2)
        rw [show (i + 1).toNat = i.toNat + 1 by omega, Int.pow_succ, Int.mul_comm (2 ^ i.toNat) 2, e2, show ((b + 2 * y : Nat) : Int) / 2 = y by omega]
    rcases hs with e | e
    · exact key 0 (by decide) (by rw [e]; rfl)
    · exact key 1 (by decide) (by rw [e]; rfl)
theorem least_of_all {n : Nat} {d m v : Int} (h1 : ∃ S : List Int, S.length = n ∧ PM S ∧ v = wsF S d m) (h2 : ∀ x ∈ rng (2 ^ n), v ≤ wsF (sgI n x) d m) : IsLeast n d m v := by
  refine ⟨h1, fun S hl hp => ?_⟩
  obtain ⟨x, x1, x2⟩ := sgI_all S hp
  have := h2 x (rng_mem.mpr ⟨by omega, by rw [← hl]; omega⟩)
  rw [← hl, x2] at this
  exact this
def IsFl (K v F : Int) : Prop := v ≤ F * F * K ∧ (∀ c : Int, 0 ≤ c → c < F → c * c * K < v) ∧ 0 ≤ F
theorem least_bd {n : Nat} (h0 : 1 ≤ n) (h1 : n ≤ 8) {d v : Int} {m : Nat} (hd : 1 ≤ d) (hm : 1 ≤ m) (h : IsLeast n d m v) : v ≤ (Lz n : Int) * Lz n * (n + ((m : Int) - 1) * d) := by
  obtain ⟨S, s1, s2, s3⟩ := word_at h0 h1
  refine Int.le_trans (h.2 S s1 s2) ?_
  rw [ws_sq (cor_0 s2) m hm]
  have := win_bd (S := S) (d := d) (m := m) (by omega) hm fun a => s3 d m a hd
  rw [s1] at this
  exact this
theorem sq_mono {a b K : Int} (h0 : 0 ≤ a) (h : a ≤ b) (hK : 0 ≤ K) : a * a * K ≤ b * b * K := Int.mul_le_mul_of_nonneg_right (Int.mul_le_mul h h (by omega) (by omega)) hK
theorem v_floor {n m : Nat} {d v : Int} (h0 : 1 ≤ n) (h1 : n ≤ 8) (d0 : 1 ≤ d) (d1 : d ≤ 100) (m0 : 1 ≤ m) (m1 : m ≤ 100) (hv : IsLeast n d m v) :
    ∃ F : Int, f_squares_floor [.int n, .int d, .int m] = some (.int F) ∧ IsFl (n + ((m : Int) - 1) * d) v F ∧ F ≤ Lz n := by
  have hb := least_bd h0 h1 d0 m0 hv
  have hK0 : 0 ≤ ((m : Int) - 1) * d := Int.mul_nonneg (by omega) (by omega)
  have hK1 : ((m : Int) - 1) * d ≤ 100 * 100 := Int.mul_le_mul (by omega) d1 (by omega) (by omega)
  have hLz : Lz n ≤ 2 := by unfold Lz; split <;> omega
  have e := IsLeast.uniq hv (half_least h0)
  have vh := v_half h0 (show n ≤ 9 by omega)
  have hne : (hsL (n - 1)).map (fun S => wsF S d m) ≠ [] := by
    intro e
    have := congrArg List.length e
    rw [List.length_map, hs_len, List.length_nil] at this
    have := Nat.two_pow_pos (n - 1)
    omega
  have hal := hs_len (n - 1)
  have h512 : 2 ^ (n - 1) ≤ 2 ^ 9 := Nat.pow_le_pow_right (by decide) (by omega)
  have key : ∃ x, f_squares_floor [.int n, .int d, .int m] = some x ∧ ∃ F : Int, x = .int F ∧ IsFl (n + ((m : Int) - 1) * d) v F ∧ F ≤ Lz n := by
    refine runPx ?_
    unfold s_squares_floor
    k_asm
    rw [vh]
    k_asm
    refine compM .int (fun S => wsF S d m) (fun S hS => ?_) ?_
    · obtain ⟨a, b⟩ := hs_mem _ S hS
      have v := v_ws b (by omega) d0 d1 (show (1 : Int) ≤ m by omega) (show (m : Int) ≤ 100 by omega)
      lk
      rw [v]
      lk
    · k_asm
      rw [← e]
      refine whileP (fun σ _ => ∃ c : Int, σ = [.val (.int n), .val (.int d), .val (.int m), .val (.int v), .un, .val (.int c)] ∧ 0 ≤ c ∧ c ≤ Lz n ∧ ∀ k : Int, 0 ≤ k → k < c → k * k * (n + ((m : Int) - 1) * d) < v) (fun σ _ => match σ with | [_, _, _, _, _, .val (.int c)] => (100 - c).toNat | _ => 0) ⟨0, rfl, by omega, by omega, fun k a b => by omega⟩ ?_ ?_
      · show (100 - 0 : Int).toNat < 100000
        decide
      · rintro σ p ⟨c, rfl, c0, c1, hc⟩
        have hcc : (c * c).natAbs ≤ 2 * 2 := by rw [Int.natAbs_mul]; exact Nat.mul_le_mul (by omega) (by omega)
        k_asm
        refine iteB (fun g => ?_) fun g => ?_
        · have hcl : c < Lz n := by
            rcases Int.lt_or_le c (Lz n) with h | h
            · exact h
            · have : c = Lz n := by omega
              rw [this] at g
              omega
          refine ⟨⟨c + 1, rfl, by omega, by omega, fun k a b => ?_⟩, by omega⟩
          by_cases hk : k < c
          · exact hc k a hk
          · rw [show k = c by omega]
            exact g
        · k_asm
          exact ⟨c, rfl, ⟨by omega, hc, c0⟩, c1⟩
  obtain ⟨x, h1, F, rfl, h2, h3⟩ := key
  exact ⟨F, h1, h2, h3⟩
end Wk

namespace Wk
open PySem L2 FL
theorem dr {m : Int} {p : PotS} {R : D → PotS → Prop} (k : ∀ (k : Int) (p' : PotS), 0 ≤ k → k < m → R (.int k) p') (hm : 0 < m := by omega) (hm2 : m < 2 ^ 200 := by omega) : EvZ (f__law_draw [.int m]) p R :=
  ⟨_, _, if_pos hm2, k _ _ (drawC_lt p).1 ((drawC_lt p).2 hm)⟩
theorem f_and1 {a : Int} : fAnd (.int a) (.int 1) = some (.int (a % 2)) := by
  show some (PyData.int (Builtin.bitAnd a 1)) = _
  rw [PyProof.Rows.bitAnd_m1]
theorem f_shr {a b : Int} (h : 0 ≤ b) : fShr (.int a) (.int b) = some (.int (a / 2 ^ b.toNat)) := if_pos h
theorem f_shl1 {n : Nat} (h : n ≤ 100) : fShl (.int 1) (.int n) = some (.int ((2 ^ n : Nat) : Int)) := by
  unfold fShl powOk
  show (if _ then _ else _) = _
  rw [if_pos (by rw [decide_eq_true (show (0 : Int) ≤ (n : Int) by omega), decide_eq_true (show (n : Int) ≤ 1000000 by omega)]; decide)]
  rw [Int.one_mul, Int.toNat_natCast]
  rfl
theorem ints_vn {B : Nat} {l : List Int} (m k : Nat) (hk : k < 1900) (h : ∀ x ∈ l, x.natAbs < 2 ^ k) (hB : 2 ^ k ≤ B) (hl : l.length ≤ m) : Vn B (m * (k + 5) + 3) 1 (.tuple (l.map .int)) :=
  vn_map (e := .int) (c := k + 3) (k := 0) m (fun x hx => int_vn k hk (h x hx) (Nat.lt_of_lt_of_le (h x hx) hB)) hl
local macro_rules | `(tactic| lk) => `(tactic| (try simp (config := { maxSteps := 3000000 }) (disch := (first | assumption | omega | (simp only [List.length_map, List.length_append, List.length_cons, List.length_nil, List.length_range, rng_len, rngI_len, idxG_len, List.length_take, List.length_drop, List.length_set, List.length_replicate, List.length_reverse, szL]; (first | done | omega)) | exact List.cons_ne_nil _ _ | exact sml rfl | rfl)) only [w_seq, w_set, w_fzS, fzS_o, fzS_v, fzS_u, fzS_p, fzS_s, w_setL, w_ret, w_retN, w_drop, w_sif, w_par, w_par3, w_parLE, w_parEL, w_parLL, w_asg, w_app, w_ext, w_put, w_snil, w_brk, w_cnt, w_for, w_var, w_c, w_bin, w_un, w_lbin, w_test, w_and, w_or, w_not, w_yes, w_if, w_ifL, w_andV, w_orV, w_notV, w_chain, w_nil, w_cons, w_tup, w_disp, w_L, w_call, w_lcall, w_iby, w_iof, w_lrng, w_onone, w_osome, w_slice, w_lslice, w_bor, w_borT, w_funZ, w_comp, op_some, op_map, op_bind, varS_0, varS_s, ownS_0, ownS_s, potS_0, potS_s, boolS_b, intS_i, listS_l, iteB_t, iteB_f, iteB_n, iteB_and, iteB_or, szd_of, seqR_rt, seqR_bk, seqR_ct, loR_nx, loR_ct, loR_bk, loR_rt, outR_nx, outR_rt, List.set_cons_zero, List.set_cons_succ, hid_c, hid_nl, val_c, val_nl, List.length_cons, List.length_nil, List.cons_append, List.nil_append, rep_s, rep_0, Nat.reduceAdd, Nat.reduceSub, Nat.zero_add, f_add, f_addT, f_addS, f_sub, f_mulL, f_mulR, f_div, f_mod, f_pow, f_neg, f_lt, f_le, f_gt, f_ge, f_eqI, f_neI, f_eqS, f_neS, f_eqtI, f_netI, f_eqlI, f_nelI, f_in1, f_nin1, f_in1L, f_nin1L, f_in2, f_nin2, f_in2L, f_nin2L, f_in3, f_nin3, f_in3L, f_nin3L, f_in4, f_nin4, f_in4L, f_nin4L, List.isEmpty_map, f_inT, f_ninT, f_inL, f_ninL, items_t, items_l, f_lenT, f_lenL, f_abs, f_intI, f_intB, f_tupL, f_tupT, f_lstL, f_lstT, f_max2, f_min2, io_nil, io_cons, io_app, intsOf_map, f_maxL, f_maxT, f_minL, f_minT, f_sumL, f_sumT, f_allL, f_anyL, f_catL, w_pop, w_popAt, w_setP, w_dropP, w_asgP, w_appP, flat_map, erase_mapG, w_tupRg, w_lstRg, f_rg1, f_rg2, tg_nil, tg_cons, tg_tup, Option.bind_some, f_eqTE, f_neTE, f_eqLE, f_neLE, f_rev, map_rv, f_mulTI, ixN_last, ixN_p, w_sliceS, w_lsliceS, f_slS, nth_map, f_repr, f_ixL, f_ixT, atI_i, atI_t, atI_0, atI_1, atI_2, atI_lastD, atI_lastG, f_slT, f_slL, cut_n, cut_t, cut_f, cut_b, cut_b0, map_appC, map_snocI, map_snocT, map_consI, map_consT, map_tk, map_dr, map_st, map_stI, map_stT, map_dl, f_rng1, f_rng2, f_lrng, f_enT, f_enL, f_zipT, f_zipL, f_zipTT, f_zipTL, f_zipLT, f_zipLL, zipL_G, f_isN, f_isB, f_isI, f_isS, f_isL, f_isT, f_isnN, f_isnB, f_isnI, f_isnS, f_isnL, f_isnT, f_isiT, f_isiL, f_isiI, f_isiB, f_isiS, f_isiD, isNum_i, isNum_n, isNum_b, isNum_s, isNum_l, isNum_t, isNum_d, isI_n, isI_b, isI_i, isI_s, isI_l, isI_t, isI_d, isTup_n, isTup_b, isTup_i, isTup_s, isTup_l, isTup_t, isTup_d, isLst_n, isLst_b, isLst_i, isLst_s, isLst_l, isLst_t, isLst_d, isIntD_n, isIntD_b, isIntD_i, isIntD_s, isIntD_l, isIntD_t, isIntD_d, isBoolD_n, isBoolD_b, isBoolD_i, isBoolD_s, isBoolD_l, isBoolD_t, isBoolD_d, isStrD_n, isStrD_b, isStrD_i, isStrD_s, isStrD_l, isStrD_t, isStrD_d, isDictD_n, isDictD_b, isDictD_i, isDictD_s, isDictD_l, isDictD_t, isDictD_d, li_0, li_1, li_2, li_3, li_4, li_5, li_6, kw_of, perm_c, perm_n, List.getD_cons_zero, List.getD_cons_succ, bor_0, bor_s, hid_o, hid_v, hid_p, hid_u, shw_o, wipe_n, wipe_c, tg_n, tg_p, tg_3, fl_n, fl_b, fl_i, fl_s, fl_t, fl_an, fl_ac, fl_ai, fl_at, dT_eq, id_eq, List.isEmpty_nil, List.isEmpty_cons, List.length_map, List.length_range, rng_len, rngI_len, idxG_len, List.length_append, List.length_take, List.length_drop, List.length_set, List.length_replicate, Int.toNat_natCast, Int.reduceToNat, decide_true, decide_false, Bool.not_true, Bool.not_false, Bool.and_true, Bool.true_and, Bool.and_false, Bool.false_and, Bool.and_self, Bool.or_true, Bool.true_or, Bool.or_false, Bool.false_or, Bool.or_self, eq_self, true_and, and_true, exists_eq_left, exists_eq_left', and_self, ne_eq, not_false_eq_true, reduceCtorEq, Option.some.injEq, szL, w_sliceP, f_spT, f_spL, f_rg3, w_parLEE, w_parELE, w_parEEL, w_lbor, w_rl, rlR_nx, lj_1, lj_2, lj_3, lj_4, atI_D]))  local macro_rules | `(tactic| k_asm) => `(tactic| ((try lk); repeat (with_reducible (refine seqR_go ?_); (try lk)))) local macro_rules | `(tactic| k_room) => `(tactic| (refine ⟨?_, ?_⟩ <;> (try simp only [cst_l, cst_t, cst_n, cst_b, csts_n, csts_c, dep_l, dep_t, dep_n, dep_b, dep_i, dep_s, deps_n, deps_c, deps_i, dT_eq, cst_d0, dep_d0, csts_app, deps_app, cst_rev, deps_rev]) <;> (try omega))) local macro_rules | `(tactic| k_flat) => `(tactic| ((try simp only [cst_l, cst_t, cst_n, cst_b, csts_n, csts_c, dep_l, dep_t, dep_n, dep_b, dep_i, dep_s, deps_n, deps_c, deps_i, dT_eq, cst_d0, dep_d0, csts_app, deps_app, cst_rev, deps_rev]); omega))
theorem ev_pick (p : PotS) {R : D → PotS → Prop} {ds : List D} (k : ∀ x ∈ ds, ∀ p', R x p') (hn : 0 < ds.length := by simp) (hl : ds.length ≤ 16777216 := by simp) : EvZ (f__law_pick [.list ds]) p R := by
  refine runZe ?_
  unfold s__law_pick
  lk
  refine dr fun i p' h0 h1 => ?_
  lk
  exact k _ (getD_mem (by omega)).2 _
local macro_rules | `(tactic| lk) => `(tactic| (try simp (config := { maxSteps := 3000000 }) (disch := (first | assumption | omega | (simp only [List.length_map, List.length_append, List.length_cons, List.length_nil, List.length_range, rng_len, rngI_len, idxG_len, List.length_take, List.length_drop, List.length_set, List.length_replicate, List.length_reverse, szL]; (first | done | omega)) | exact List.cons_ne_nil _ _ | exact sml rfl | rfl)) only [w_seq, w_set, w_fzS, fzS_o, fzS_v, fzS_u, fzS_p, fzS_s, w_setL, w_ret, w_retN, w_drop, w_sif, w_par, w_par3, w_parLE, w_parEL, w_parLL, w_asg, w_app, w_ext, w_put, w_snil, w_brk, w_cnt, w_for, w_var, w_c, w_bin, w_un, w_lbin, w_test, w_and, w_or, w_not, w_yes, w_if, w_ifL, w_andV, w_orV, w_notV, w_chain, w_nil, w_cons, w_tup, w_disp, w_L, w_call, w_lcall, w_iby, w_iof, w_lrng, w_onone, w_osome, w_slice, w_lslice, w_bor, w_borT, w_funZ, w_comp, op_some, op_map, op_bind, varS_0, varS_s, ownS_0, ownS_s, potS_0, potS_s, boolS_b, intS_i, listS_l, iteB_t, iteB_f, iteB_n, iteB_and, iteB_or, szd_of, seqR_rt, seqR_bk, seqR_ct, loR_nx, loR_ct, loR_bk, loR_rt, outR_nx, outR_rt, List.set_cons_zero, List.set_cons_succ, hid_c, hid_nl, val_c, val_nl, List.length_cons, List.length_nil, List.cons_append, List.nil_append, rep_s, rep_0, Nat.reduceAdd, Nat.reduceSub, Nat.zero_add, f_add, f_addT, f_addS, f_sub, f_mulL, f_mulR, f_div, f_mod, f_pow, f_neg, f_lt, f_le, f_gt, f_ge, f_eqI, f_neI, f_eqS, f_neS, f_eqtI, f_netI, f_eqlI, f_nelI, f_in1, f_nin1, f_in1L, f_nin1L, f_in2, f_nin2, f_in2L, f_nin2L, f_in3, f_nin3, f_in3L, f_nin3L, f_in4, f_nin4, f_in4L, f_nin4L, List.isEmpty_map, f_inT, f_ninT, f_inL, f_ninL, items_t, items_l, f_lenT, f_lenL, f_abs, f_intI, f_intB, f_tupL, f_tupT, f_lstL, f_lstT, f_max2, f_min2, io_nil, io_cons, io_app, intsOf_map, f_maxL, f_maxT, f_minL, f_minT, f_sumL, f_sumT, f_allL, f_anyL, f_catL, w_pop, w_popAt, w_setP, w_dropP, w_asgP, w_appP, flat_map, erase_mapG, w_tupRg, w_lstRg, f_rg1, f_rg2, tg_nil, tg_cons, tg_tup, Option.bind_some, f_eqTE, f_neTE, f_eqLE, f_neLE, f_rev, map_rv, f_mulTI, ixN_last, ixN_p, w_sliceS, w_lsliceS, f_slS, nth_map, f_repr, f_ixL, f_ixT, atI_i, atI_t, atI_0, atI_1, atI_2, atI_lastD, atI_lastG, f_slT, f_slL, cut_n, cut_t, cut_f, cut_b, cut_b0, map_appC, map_snocI, map_snocT, map_consI, map_consT, map_tk, map_dr, map_st, map_stI, map_stT, map_dl, f_rng1, f_rng2, f_lrng, f_enT, f_enL, f_zipT, f_zipL, f_zipTT, f_zipTL, f_zipLT, f_zipLL, zipL_G, f_isN, f_isB, f_isI, f_isS, f_isL, f_isT, f_isnN, f_isnB, f_isnI, f_isnS, f_isnL, f_isnT, f_isiT, f_isiL, f_isiI, f_isiB, f_isiS, f_isiD, isNum_i, isNum_n, isNum_b, isNum_s, isNum_l, isNum_t, isNum_d, isI_n, isI_b, isI_i, isI_s, isI_l, isI_t, isI_d, isTup_n, isTup_b, isTup_i, isTup_s, isTup_l, isTup_t, isTup_d, isLst_n, isLst_b, isLst_i, isLst_s, isLst_l, isLst_t, isLst_d, isIntD_n, isIntD_b, isIntD_i, isIntD_s, isIntD_l, isIntD_t, isIntD_d, isBoolD_n, isBoolD_b, isBoolD_i, isBoolD_s, isBoolD_l, isBoolD_t, isBoolD_d, isStrD_n, isStrD_b, isStrD_i, isStrD_s, isStrD_l, isStrD_t, isStrD_d, isDictD_n, isDictD_b, isDictD_i, isDictD_s, isDictD_l, isDictD_t, isDictD_d, li_0, li_1, li_2, li_3, li_4, li_5, li_6, kw_of, perm_c, perm_n, List.getD_cons_zero, List.getD_cons_succ, bor_0, bor_s, hid_o, hid_v, hid_p, hid_u, shw_o, wipe_n, wipe_c, tg_n, tg_p, tg_3, fl_n, fl_b, fl_i, fl_s, fl_t, fl_an, fl_ac, fl_ai, fl_at, dT_eq, id_eq, List.isEmpty_nil, List.isEmpty_cons, List.length_map, List.length_range, rng_len, rngI_len, idxG_len, List.length_append, List.length_take, List.length_drop, List.length_set, List.length_replicate, Int.toNat_natCast, Int.reduceToNat, decide_true, decide_false, Bool.not_true, Bool.not_false, Bool.and_true, Bool.true_and, Bool.and_false, Bool.false_and, Bool.and_self, Bool.or_true, Bool.true_or, Bool.or_false, Bool.false_or, Bool.or_self, eq_self, true_and, and_true, exists_eq_left, exists_eq_left', and_self, ne_eq, not_false_eq_true, reduceCtorEq, Option.some.injEq, szL, w_sliceP, f_spT, f_spL, f_rg3, w_parLEE, w_parELE, w_parEEL, w_lbor, w_rl, rlR_nx, lj_1, lj_2, lj_3, lj_4]))  local macro_rules | `(tactic| k_asm) => `(tactic| ((try lk); repeat (with_reducible (refine seqR_go ?_); (try lk)))) local macro_rules | `(tactic| k_room) => `(tactic| (refine ⟨?_, ?_⟩ <;> (try simp only [cst_l, cst_t, cst_n, cst_b, csts_n, csts_c, dep_l, dep_t, dep_n, dep_b, dep_i, dep_s, deps_n, deps_c, deps_i, dT_eq, cst_d0, dep_d0, csts_app, deps_app, cst_rev, deps_rev]) <;> (try omega))) local macro_rules | `(tactic| k_flat) => `(tactic| ((try simp only [cst_l, cst_t, cst_n, cst_b, csts_n, csts_c, dep_l, dep_t, dep_n, dep_b, dep_i, dep_s, deps_n, deps_c, deps_i, dT_eq, cst_d0, dep_d0, csts_app, deps_app, cst_rev, deps_rev]); omega))
theorem ev_signs (p : PotS) {R : D → PotS → Prop} {n : Nat} (hn : n ≤ 100) (k : ∀ S : List Int, S.length = n → PM S → ∀ p', R (.tuple (S.map .int)) p') : EvZ (f__law_signs [.int n]) p R := by
  refine runZe ?_
  unfold s__law_signs
  k_asm
  refine compZM .int (fun _ _ => True) (fun _ y => y = 1 ∨ y = -1) trivial (fun j x q hj _ => ?_) fun S q hS _ => ?_
  · lk
    refine dr fun c p9 c0 c1 => ?_
    lk
    exact ⟨_, rfl, by omega⟩
  · k_asm
    exact k S (by rw [← hS.len, rng_len]) hS.right q
theorem rp2 {r : Int} (hr : r.natAbs < 2 ^ 40) : RpOk (.list [.int r, .int r]) := by
  have := (int_vn (B := 2 ^ 40) (i := r) 40 (by decide) hr hr).b.1
  k_room
theorem ws_b {S : List Int} (h : PM S) (hl : S.length ≤ 60) {d m : Int} (m0 : 1 ≤ m) (m1 : m ≤ 60) (d0 : 1 ≤ d) : (wsF S d m).natAbs < 2 ^ 40 := by
  have hc : ∀ j : Int, 0 ≤ j → (cor S j).natAbs ≤ 60 := fun j hj => by
    have := sum_zip_b h j.toNat
    rw [al_cor, show ((j.toNat : Nat) : Int) = j by omega] at this
    omega
  have : ∀ l : List Int, (∀ j ∈ l, 1 ≤ j ∧ j < m) → (sm l fun j => 2 * (m - j) * cor S (j * d)).natAbs ≤ 7200 * l.length := fun l => by
    induction l with
    | nil => intro _; exact Nat.le_refl 0
    | cons x r ih =>
      intro hl
      have h1 := ih fun y hy => hl y (List.mem_cons_of_mem _ hy)
      have h2 := hl x List.mem_cons_self
      have h3 := hc (x * d) (Int.mul_nonneg (by omega) (by omega))
      have h4 : (2 * (m - x) * cor S (x * d)).natAbs ≤ 120 * 60 := by
        rw [Int.natAbs_mul]
        exact Nat.mul_le_mul (by omega) h3
      rw [sm_cons, List.length_cons]
      omega
  have h5 := this (rngI 1 m) fun j hj => by have := rngI_mem.mp hj; omega
  rw [rngI_len] at h5
  have h6 : (m * (S.length : Int)).natAbs ≤ 60 * 60 := by rw [Int.natAbs_mul]; exact Nat.mul_le_mul (by omega) (by omega)
  unfold wsF
  have : (2 : Nat) ^ 40 = 1099511627776 := by decide
  omega
local macro_rules | `(tactic| lk) => `(tactic| (try simp (config := { maxSteps := 3000000 }) (disch := (first | assumption | omega | (simp only [List.length_map, List.length_append, List.length_cons, List.length_nil, List.length_range, rng_len, rngI_len, idxG_len, List.length_take, List.length_drop, List.length_set, List.length_replicate, List.length_reverse, szL]; (first | done | omega)) | exact List.cons_ne_nil _ _ | exact sml rfl | rfl)) only [w_seq, w_set, w_fzS, fzS_o, fzS_v, fzS_u, fzS_p, fzS_s, w_setL, w_ret, w_retN, w_drop, w_sif, w_par, w_par3, w_parLE, w_parEL, w_parLL, w_asg, w_app, w_ext, w_put, w_snil, w_brk, w_cnt, w_for, w_var, w_c, w_bin, w_un, w_lbin, w_test, w_and, w_or, w_not, w_yes, w_if, w_ifL, w_andV, w_orV, w_notV, w_chain, w_nil, w_cons, w_tup, w_disp, w_L, w_call, w_lcall, w_iby, w_iof, w_lrng, w_onone, w_osome, w_slice, w_lslice, w_bor, w_borT, w_funZ, w_comp, op_some, op_map, op_bind, varS_0, varS_s, ownS_0, ownS_s, potS_0, potS_s, boolS_b, intS_i, listS_l, iteB_t, iteB_f, iteB_n, iteB_and, iteB_or, szd_of, seqR_rt, seqR_bk, seqR_ct, loR_nx, loR_ct, loR_bk, loR_rt, outR_nx, outR_rt, List.set_cons_zero, List.set_cons_succ, hid_c, hid_nl, val_c, val_nl, List.length_cons, List.length_nil, List.cons_append, List.nil_append, rep_s, rep_0, Nat.reduceAdd, Nat.reduceSub, Nat.zero_add, f_add, f_addT, f_addS, f_sub, f_mulL, f_mulR, f_div, f_mod, f_pow, f_neg, f_lt, f_le, f_gt, f_ge, f_eqI, f_neI, f_eqS, f_neS, f_eqtI, f_netI, f_eqlI, f_nelI, f_in1, f_nin1, f_in1L, f_nin1L, f_in2, f_nin2, f_in2L, f_nin2L, f_in3, f_nin3, f_in3L, f_nin3L, f_in4, f_nin4, f_in4L, f_nin4L, List.isEmpty_map, f_inT, f_ninT, f_inL, f_ninL, items_t, items_l, f_lenT, f_lenL, f_abs, f_intI, f_intB, f_tupL, f_tupT, f_lstL, f_lstT, f_max2, f_min2, io_nil, io_cons, io_app, intsOf_map, f_maxL, f_maxT, f_minL, f_minT, f_sumL, f_sumT, f_allL, f_anyL, f_catL, w_pop, w_popAt, w_setP, w_dropP, w_asgP, w_appP, flat_map, erase_mapG, w_tupRg, w_lstRg, f_rg1, f_rg2, tg_nil, tg_cons, tg_tup, Option.bind_some, f_eqTE, f_neTE, f_eqLE, f_neLE, f_rev, map_rv, f_mulTI, ixN_last, ixN_p, w_sliceS, w_lsliceS, f_slS, nth_map, f_repr, f_ixL, f_ixT, atI_i, atI_t, atI_0, atI_1, atI_2, atI_lastD, atI_lastG, f_slT, f_slL, cut_n, cut_t, cut_f, cut_b, cut_b0, map_appC, map_snocI, map_snocT, map_consI, map_consT, map_tk, map_dr, map_st, map_stI, map_stT, map_dl, f_rng1, f_rng2, f_lrng, f_enT, f_enL, f_zipT, f_zipL, f_zipTT, f_zipTL, f_zipLT, f_zipLL, zipL_G, f_isN, f_isB, f_isI, f_isS, f_isL, f_isT, f_isnN, f_isnB, f_isnI, f_isnS, f_isnL, f_isnT, f_isiT, f_isiL, f_isiI, f_isiB, f_isiS, f_isiD, isNum_i, isNum_n, isNum_b, isNum_s, isNum_l, isNum_t, isNum_d, isI_n, isI_b, isI_i, isI_s, isI_l, isI_t, isI_d, isTup_n, isTup_b, isTup_i, isTup_s, isTup_l, isTup_t, isTup_d, isLst_n, isLst_b, isLst_i, isLst_s, isLst_l, isLst_t, isLst_d, isIntD_n, isIntD_b, isIntD_i, isIntD_s, isIntD_l, isIntD_t, isIntD_d, isBoolD_n, isBoolD_b, isBoolD_i, isBoolD_s, isBoolD_l, isBoolD_t, isBoolD_d, isStrD_n, isStrD_b, isStrD_i, isStrD_s, isStrD_l, isStrD_t, isStrD_d, isDictD_n, isDictD_b, isDictD_i, isDictD_s, isDictD_l, isDictD_t, isDictD_d, li_0, li_1, li_2, li_3, li_4, li_5, li_6, kw_of, perm_c, perm_n, List.getD_cons_zero, List.getD_cons_succ, bor_0, bor_s, hid_o, hid_v, hid_p, hid_u, shw_o, wipe_n, wipe_c, tg_n, tg_p, tg_3, fl_n, fl_b, fl_i, fl_s, fl_t, fl_an, fl_ac, fl_ai, fl_at, dT_eq, id_eq, List.isEmpty_nil, List.isEmpty_cons, List.length_map, List.length_range, rng_len, rngI_len, idxG_len, List.length_append, List.length_take, List.length_drop, List.length_set, List.length_replicate, Int.toNat_natCast, Int.reduceToNat, decide_true, decide_false, Bool.not_true, Bool.not_false, Bool.and_true, Bool.true_and, Bool.and_false, Bool.false_and, Bool.and_self, Bool.or_true, Bool.true_or, Bool.or_false, Bool.false_or, Bool.or_self, eq_self, true_and, and_true, exists_eq_left, exists_eq_left', and_self, ne_eq, not_false_eq_true, reduceCtorEq, Option.some.injEq, szL, w_sliceP, f_spT, f_spL, f_rg3, w_parLEE, w_parELE, w_parEEL, w_lbor, w_rl, rlR_nx, lj_1, lj_2, lj_3, lj_4, f_and1, f_shr, f_shl1]))  local macro_rules | `(tactic| k_asm) => `(tactic| ((try lk); repeat (with_reducible (refine seqR_go ?_); (try lk)))) local macro_rules | `(tactic| k_room) => `(tactic| (refine ⟨?_, ?_⟩ <;> (try simp only [cst_l, cst_t, cst_n, cst_b, csts_n, csts_c, dep_l, dep_t, dep_n, dep_b, dep_i, dep_s, deps_n, deps_c, deps_i, dT_eq, cst_d0, dep_d0, csts_app, deps_app, cst_rev, deps_rev]) <;> (try omega))) local macro_rules | `(tactic| k_flat) => `(tactic| ((try simp only [cst_l, cst_t, cst_n, cst_b, csts_n, csts_c, dep_l, dep_t, dep_n, dep_b, dep_i, dep_s, deps_n, deps_c, deps_i, dT_eq, cst_d0, dep_d0, csts_app, deps_app, cst_rev, deps_rev]); omega))
def qE : SE PotS := xIf (xTest (xBin fEq (xFunZ 2 1 f__law_draw (aCons (xC (.int 5)) aNil)) (xC (.int 0)))) (xC (.int 8)) (xC (.int 6))
theorem qE_eq : qE = xIf (xTest (xBin fEq (xFunZ 2 1 f__law_draw (aCons (xC (.int 5)) aNil)) (xC (.int 0)))) (xC (.int 8)) (xC (.int 6)) := rfl
theorem ev_qE (p : PotS) (x0 : Sl) (js : List Sl) {R : D → PotS → Prop} (k : ∀ t : Int, 1 ≤ t → t ≤ 8 → ∀ p', R (.int t) p') : EvE qE (x0 :: .pot :: js) p R := by
  rw [qE_eq]
  lk
  refine dr fun a p1 a0 a1 => ?_
  lk
  refine iteB (fun _ => ?_) fun _ => ?_
  · exact k 8 (by decide) (by decide) p1
  · exact k 6 (by decide) (by decide) p1
def Lq (n : Nat) (d : Int) (M : Nat) (pre : List Int) (l : D) : Prop := (pre = [] ∧ l = .none) ∨ ∃ v : Int, l = .int v ∧ (∃ S : List Int, S.length = n ∧ PM S ∧ v = wsF S d M) ∧ ∀ x ∈ pre, v ≤ wsF (sgI n x) d M
theorem law_all (p : PotS) : ∃ p', s_law (.un :: .pot :: List.replicate 15 .un) p = some (.rt (.bool true) p') := by
  have key : Ends s_law (.un :: .pot :: List.replicate 15 .un) p fun o => ∃ p', o = .rt (.bool true) p' := by
    unfold s_law
    rw [← qE_eq]
    k_asm
    refine loopP (fun pre σ p => ∃ j2 j3 j4 j5 j6 j7 j8 j9 j10 j11 j12 j13 j14 j16 : Sl, σ = [.un, .pot, j2, j3, j4, j5, j6, j7, j8, j9, j10, j11, j12, j13, j14, .un, j16]) ⟨_, _, _, _, _, _, _, _, _, _, _, _, _, _, rfl⟩ ?_ ?_
    · rintro pre turn post σ p hx ⟨j2, j3, j4, j5, j6, j7, j8, j9, j10, j11, j12, j13, j14, j16, rfl⟩
      k_asm
      refine ev_pick p fun x hx p1 => ?_
      obtain ⟨t, rfl, t0, t1⟩ : ∃ t : Int, x = .int t ∧ 1 ≤ t ∧ t ≤ 60 := by
        simp only [List.mem_cons, List.not_mem_nil, or_false] at hx
        rcases hx with rfl | rfl | rfl <;> exact ⟨_, rfl, by decide, by decide⟩
      k_asm
      refine dr fun a p2 a0 a1 => ?_
      obtain ⟨n, hn⟩ : ∃ n : Nat, 1 + a = (n : Int) := ⟨(1 + a).toNat, by omega⟩
      k_asm
      rw [hn]
      refine ev_signs p2 (by omega) fun S sl sp p3 => ?_
      k_asm
      refine ev_pick p3 fun x hx p4 => ?_
      obtain ⟨t, rfl, t0, t1⟩ : ∃ t : Int, x = .int t ∧ 1 ≤ t ∧ t ≤ 60 := by
        simp only [List.mem_cons, List.not_mem_nil, or_false] at hx
        rcases hx with rfl | rfl <;> exact ⟨_, rfl, by decide, by decide⟩
      k_asm
      refine dr fun b p5 b0 b1 => ?_
      k_asm
      refine dr fun j p6 j0 j1 => ?_
      obtain ⟨J, rfl⟩ : ∃ J : Nat, j = (J : Int) := ⟨j.toNat, by omega⟩
      have n0 : 1 ≤ n := by omega
      have n1 : n ≤ 60 := by omega
      have vl := v_like sp (by omega) J
      have va := v_alike (w := .tuple (S.map .int)) (.inl rfl) sp (by omega) J
      have rA := rp2 (r := alF S J) (by have := sum_zip_b sp J; have : (2 : Nat) ^ 40 = 1099511627776 := by decide
                                        omega)
      have vS : Vb 1000 1 (.tuple (S.map .int)) := (ints_vn (B := 2 ^ 5) (l := S) 60 5 (by decide) (fun x hx => by rcases sp x hx with e | e <;> rw [e] <;> decide) (Nat.le_refl _) (by omega)).b.mono (by decide) (by decide)
      have rS : RpOk (.tuple (S.map .int)) := by
        have := vS.tup
        k_room
      k_asm
      rw [va]
      k_asm
      rw [vl]
      k_asm
      refine ev_pick p6 fun x hx p7 => ?_
      obtain ⟨t, rfl, t0, t1⟩ : ∃ t : Int, x = .int t ∧ 1 ≤ t ∧ t ≤ 60 := by
        simp only [List.mem_cons, List.not_mem_nil, or_false] at hx
        rcases hx with rfl | rfl | rfl <;> exact ⟨_, rfl, by decide, by decide⟩
      k_asm
      refine dr fun c p8 c0 c1 => ?_
      obtain ⟨M, hM⟩ : ∃ M : Nat, 1 + c = (M : Int) := ⟨(1 + c).toNat, by omega⟩
      obtain ⟨d, hd⟩ : ∃ d : Int, 1 + b = d := ⟨_, rfl⟩
      have d0 : 1 ≤ d := by omega
      have d1 : d ≤ 60 := by omega
      have M0 : 1 ≤ M := by omega
      have M1 : M ≤ 60 := by omega
      k_asm
      rw [hM, hd]
      have vq := v_lsq (w := .tuple (S.map .int)) (.inl rfl) sp (by omega) d0 (show d ≤ 100 by omega) (show (1 : Int) ≤ M by omega) (show (M : Int) ≤ 100 by omega)
      have vw := v_ws sp (by omega) d0 (show d ≤ 100 by omega) (show (1 : Int) ≤ M by omega) (show (M : Int) ≤ 100 by omega)
      obtain ⟨w, vlw, hw, hwb⟩ := v_lw sp (by omega) (by omega)
      have hbd := win_bd (S := S) (d := d) (m := M) (by omega) M0 fun a => all_win sp (by omega) hwb d0 M a
      rw [← ws_sq (cor_0 sp) M M0, sl] at hbd
      have rW := rp2 (ws_b (S := S) (d := d) (m := M) sp (by omega) (by omega) (by omega) d0)
      generalize wsF S d M = v at vq vw hbd rW
      have hww : (w * w).natAbs ≤ 200 * 200 := by rw [Int.natAbs_mul]; exact Nat.mul_le_mul (by omega) (by omega)
      k_asm
      rw [vq]
      k_asm
      rw [vw]
      k_asm
      rw [vlw]
      k_asm
      refine iteB_no (by omega) ?_
      k_asm
      refine dr fun a2 p9 e0 e1 => ?_
      k_asm
      refine dr fun b2 p10 f0 f1 => ?_
      obtain ⟨M2, hM2⟩ : ∃ M : Nat, 1 + b2 = (M : Int) := ⟨(1 + b2).toNat, by omega⟩
      have sp2 : PM (S.take 9) := fun x hx => sp x (List.mem_of_mem_take hx)
      have sl2 : (S.take 9).length ≤ 100 := by rw [List.length_take]; omega
      have vx := v_ws sp2 sl2 (d := 1 + a2) (m := M2) (by omega) (by omega) (by omega) (by omega)
      have vy := v_lwin sp2 sl2 (d := 1 + a2) (m := M2) (by omega) (by omega) (by omega) (by omega)
      k_asm
      rw [hM2, vx]
      k_asm
      rw [vy]
      k_asm
      exact ⟨_, _, _, _, _, _, _, _, _, _, _, _, _, _, rfl⟩
    · rintro σ q ⟨j2, j3, j4, j5, j6, j7, j8, j9, j10, j11, j12, j13, j14, j16, rfl⟩
      k_asm
      refine ev_qE q _ _ fun t t0 t1 p1 => ?_
      k_asm
      refine dr fun a p2 a0 a1 => ?_
      obtain ⟨n, hn⟩ : ∃ n : Nat, 1 + a = (n : Int) := ⟨(1 + a).toNat, by omega⟩
      k_asm
      rw [hn]
      refine ev_pick p2 fun x hx p3 => ?_
      obtain ⟨t, rfl, t0, t1⟩ : ∃ t : Int, x = .int t ∧ 1 ≤ t ∧ t ≤ 60 := by
        simp only [List.mem_cons, List.not_mem_nil, or_false] at hx
        rcases hx with rfl | rfl <;> exact ⟨_, rfl, by decide, by decide⟩
      k_asm
      refine dr fun b p4 b0 b1 => ?_
      obtain ⟨d, hd⟩ : ∃ d : Int, 1 + b = d := ⟨_, rfl⟩
      k_asm
      refine ev_pick p4 fun x hx p5 => ?_
      obtain ⟨t, rfl, t0, t1⟩ : ∃ t : Int, x = .int t ∧ 1 ≤ t ∧ t ≤ 60 := by
        simp only [List.mem_cons, List.not_mem_nil, or_false] at hx
        rcases hx with rfl | rfl <;> exact ⟨_, rfl, by decide, by decide⟩
      k_asm
      refine dr fun c p6 c0 c1 => ?_
      obtain ⟨M, hM⟩ : ∃ M : Nat, 1 + c = (M : Int) := ⟨(1 + c).toNat, by omega⟩
      have n0 : 1 ≤ n := by omega
      have n1 : n ≤ 8 := by omega
      have d0 : 1 ≤ d := by omega
      have d1 : d ≤ 60 := by omega
      have M0 : 1 ≤ M := by omega
      have M1 : M ≤ 60 := by omega
      k_asm
      rw [hM, hd]
      have hQ := @least_of_all n d M
      have q1 : 2 ^ n ≤ 2 ^ 8 := Nat.pow_le_pow_right (by decide) n1
      have q0 : 0 < 2 ^ n := Nat.two_pow_pos n
      generalize 2 ^ n = Q at hQ q0 q1
      k_asm
      refine loopP (fun pre σ q => p6 = q ∧ ∃ (l : D) (j2 j4 j7 j8 j9 j10 j11 j13 j14 j16 : Sl), Lq n d M pre l ∧ σ = [.un, .pot, j2, .val (.int n), j4, .val (.int d), .val (.int M), j7, j8, j9, j10, j11, .val l, j13, j14, .un, j16]) ⟨rfl, .none, _, _, _, _, _, _, _, _, _, _, .inl ⟨rfl, rfl⟩, rfl⟩ ?_ ?_
      · rintro pre x post σ q hx ⟨rfl, l, j2, j4, j7, j8, j9, j10, j11, j13, j14, j16, hl, rfl⟩
        obtain ⟨g1, g2⟩ := sgI_pm n x
        have vq := v_lsq (w := .list ((sgI n x).map .int)) (.inr rfl) g2 (by omega) d0 (show d ≤ 100 by omega) (show (1 : Int) ≤ M by omega) (show (M : Int) ≤ 100 by omega)
        k_asm
        refine compM .int (fun i => 1 - 2 * (x / 2 ^ i.toNat % 2)) (fun i hi => ?_) ?_
        · have := rng_mem.mp hi
          lk
        · rw [show (rng n).map (fun i => 1 - 2 * (x / 2 ^ i.toNat % 2)) = sgI n x from rfl]
          k_asm
          rw [vq]
          rcases hl with ⟨rfl, rfl⟩ | ⟨v, rfl, h1, h2⟩
          · k_asm
            exact ⟨_, _, _, _, _, _, _, _, _, _, _, .inr ⟨_, rfl, ⟨_, g1, g2, rfl⟩, fun y hy => by rw [List.mem_singleton.mp hy]; exact Int.le_refl _⟩, rfl⟩
          · k_asm
            refine ⟨_, _, _, _, _, _, _, _, _, _, _, .inr ⟨min v (wsF (sgI n x) d M), rfl, ?_, fun y hy => ?_⟩, rfl⟩
            · rcases Int.le_total v (wsF (sgI n x) d M) with g | g
              · rw [Int.min_eq_left g]
                exact h1
              · rw [Int.min_eq_right g]
                exact ⟨_, g1, g2, rfl⟩
            · rcases List.mem_append.mp hy with hy | hy
              · have := h2 y hy
                omega
              · rw [List.mem_singleton.mp hy]
                omega
      · rintro σ q ⟨rfl, l, j2, j4, j7, j8, j9, j10, j11, j13, j14, j16, hl, rfl⟩
        obtain ⟨v, rfl, hv⟩ : ∃ v : Int, l = .int v ∧ IsLeast n d M v := by
          rcases hl with ⟨e, _⟩ | ⟨v, e, h1, h2⟩
          · have := congrArg List.length e
            rw [rng_len, List.length_nil] at this
            omega
          · exact ⟨v, e, hQ h1 h2⟩
        obtain ⟨F, vF, hF, hFL⟩ := v_floor n0 n1 d0 (show d ≤ 100 by omega) M0 (show M ≤ 100 by omega) hv
        have vsp := v_spaced n0 n1
        k_asm
        rw [show ((n : Int) + 1).toNat = n + 1 by omega]
        have hLz : Lz n ≤ 2 := by unfold Lz; split <;> omega
        have hLn : Lz n ≤ n := by unfold Lz; split <;> omega
        have hK0 : 0 ≤ ((M : Int) - 1) * d := Int.mul_nonneg (by omega) (by omega)
        have rF := rp2 (r := F) (by have := hF.2.2; have : (2 : Nat) ^ 40 = 1099511627776 := by decide
                                    omega)
        refine loopP (fun pre σ q => p6 = q ∧ ∃ (du : Int) (j2 j4 j7 j9 j10 j11 j13 j14 j16 : Sl), du = min (pre.length : Int) F ∧ σ = [.un, .pot, j2, .val (.int n), j4, .val (.int d), .val (.int M), j7, .val (.int du), j9, j10, j11, .val (.int v), j13, j14, .un, j16]) ⟨rfl, 0, _, _, _, _, _, _, _, _, _, by have := hF.2.2; rw [List.length_nil]; omega, rfl⟩ ?_ ?_
        · rintro pre x post σ q hx ⟨rfl, du, j2, j4, j7, j9, j10, j11, j13, j14, j16, hdu, rfl⟩
          have hpx : x = pre.length := by
            have := congrArg (fun l => l[pre.length]?) (show rng (n + 1) = pre ++ x :: post from hx)
            simp only [List.getElem?_append_right (Nat.le_refl _), Nat.sub_self, List.getElem?_cons_zero] at this
            have hlen := congrArg List.length (show rng (n + 1) = pre ++ x :: post from hx)
            rw [rng_len, List.length_append, List.length_cons] at hlen
            rw [rng_get (by omega)] at this
            exact (Option.some.inj this).symm
          have hlen := congrArg List.length (show rng (n + 1) = pre ++ x :: post from hx)
          rw [rng_len, List.length_append, List.length_cons] at hlen
          have hxx : (x * x).natAbs ≤ 9 * 9 := by rw [Int.natAbs_mul]; exact Nat.mul_le_mul (by omega) (by omega)
          rw [List.length_append, List.length_singleton]
          k_asm
          refine iteB (fun g => ?_) fun g => ?_
          · have hlt : x < F := by
              rcases Int.lt_or_le x F with h | h
              · exact h
              · have := sq_mono hF.2.2 h (show (0 : Int) ≤ n + ((M : Int) - 1) * d by omega)
                have := hF.1
                omega
            exact ⟨_, _, _, _, _, _, _, _, _, _, by omega, rfl⟩
          · have hge : F ≤ x := by
              rcases Int.lt_or_le x F with h | h
              · exact absurd (hF.2.1 x (by omega) h) g
              · exact h
            exact ⟨_, _, _, _, _, _, _, _, _, _, by omega, rfl⟩
        · rintro σ q ⟨rfl, du, j2, j4, j7, j9, j10, j11, j13, j14, j16, hdu, rfl⟩
          rw [rng_len] at hdu
          have hdF : du = F := by omega
          subst hdF
          k_asm
          rw [vF]
          k_asm
          rw [vsp]
          k_asm
          rw [decide_eq_true hFL]
          exact ⟨_, rfl⟩
  obtain ⟨o, e, p', rfl⟩ := key
  exact ⟨p', e⟩
end Wk

namespace Wk
open PySem PySem.Spec PyProof.Rows L2 FL
theorem law_F {P : Program} {w : World} {K : PySem.W.Frag} {mg : Str → Option Value} (T : Txt K mg) (fa : Addr) (base : Heap) (cd : Value) (s : Shared) (H : Hp) (a : Addr) (ns : List Int) (hlen : ns.length ≤ 63) (hS : SqL K H a (ns.map V.int))
    (hr : Room 4 (callerA.deeper (envOfC "law" (defScope st_law) s.heap.objs.size fa cd))) :
    ∃ t, PSs (cx P w K mg base ["script", "deck", "turn", "n", "signs", "d", "m", "kept", "due", "told", "worst", "few", "least", "lot", "own", "place", "c"] "law" (defScope st_law) fa cd callerA [] s H E0) (defBody st_law) t ∧ t { nx := fun _ _ => False, rt := fun v _ => v = .bl true } (L2.start ["script", "deck", "turn", "n", "signs", "d", "m", "kept", "due", "told", "worst", "few", "least", "lot", "own", "place", "c"] [.ref a]) H := by
  obtain ⟨t, h1, h2⟩ := (ok_law (P := P) (w := w) (base := base) T hr rfl).ex
  exact ⟨_, pss_cons (ps_set (i := 1) sc_law.nd rfl (by first | exact .inl rfl | exact .inr rfl) (pe_call (ok__law_deck T) (hr.mono (by decide)) rfl T.m__law_deck T.F__law_deck.kp T.b__law_deck .nil pass0 (pa_cons (pv 0) pa_nil))) (h1 _ (fam_self sc_law.nd)),
    ⟨_, rfl, a, ns, rfl, hS, hlen, fun pa ga H' p _ _ _ hok => (law_all p).elim fun p' e => law_rest (m := 15) h2 hok rfl rfl e⟩⟩
theorem law_of {P : Program} {w : World} {K : PySem.W.Frag} {mg : Str → Option Value} {fa : Addr} (h : ∃ fd : FuncData, (∀ (s : Shared) (v : Value), BindsTo s fd ⟨[v], []⟩ [("script", v)]) ∧ Fun K "law" "law" st_law fa fd ∧ Nonempty (Txt K mg)) :
    ∃ fd : FuncData, (∀ (s : Shared) (u : Value), BindsTo s fd ⟨[u], []⟩ [("script", u)]) ∧ Fun K "law" "law" st_law fa fd ∧
        ∀ (base : Heap) (cd : Value) (s : Shared) (H : Hp) (a : Addr) (ns : List Int), K.In base → base.Ns mainGlobals mg → ns.length ≤ 63 → (∀ z ∈ ns, Builtin.Int.intBits z ≤ 1048576) → Only H → SqL K H a (ns.map V.int) →
          Room 4 (callerA.deeper (envOfC "law" (defScope st_law) s.heap.objs.size fa cd)) →
          ∃ t, PSs (cx P w K mg base ["script", "deck", "turn", "n", "signs", "d", "m", "kept", "due", "told", "worst", "few", "least", "lot", "own", "place", "c"] "law" (defScope st_law) fa cd callerA [] s H E0) (defBody st_law) t ∧ t { nx := fun _ _ => False, rt := fun v _ => v = .bl true } (L2.start ["script", "deck", "turn", "n", "signs", "d", "m", "kept", "due", "told", "worst", "few", "least", "lot", "own", "place", "c"] [.ref a]) H := by
  obtain ⟨fd, h1, h2, ⟨T⟩⟩ := h
  exact ⟨fd, h1, h2, fun base cd s H a ns _ _ hl _ _ hS hr => law_F T fa base cd s H a ns hl hS hr⟩
end Wk

open PySem PySem.W PyProof.Rows in
set_option maxRecDepth 100000 in
set_option maxHeartbeats 0 in
theorem PySem.Challenge.cw_evensigns_k42_whole_main_window_squares_holds : PySem.Challenge.rw_evensigns_k42_whole_main_window_squares.Holds := by
  w_on; o_law; k_head; (case hw => w_witness2)
  k_fill
  refine FL.walk_G (l := PySem.Challenge.rw_evensigns_k42_whole_main_window_squares) (n := 63) (k := 4) (y := "script") (x := "law") (qual := "law") (N := ["script", "deck", "turn", "n", "signs", "d", "m", "kept", "due", "told", "worst", "few", "least", "lot", "own", "place", "c"]) (st := Wk.st_law) rfl (by decide) rfl ⟨rfl, by decide, by decide⟩ (fun w h Y => PySem.W.kIn_of Y) Wk.sc_law ?F
  case F =>
    intro w mg fa h KX G hmg
    refine' Wk.law_of (Wk.all_mk (w := w) KX G hmg ?n_likeness ?l_likeness ?c_likeness ?k_likeness ?n_window_squares ?l_window_squares ?c_window_squares ?k_window_squares ?n_half_signs ?l_half_signs ?c_half_signs ?k_half_signs ?n_squares_floor ?l_squares_floor ?c_squares_floor ?k_squares_floor ?n_farthest ?l_farthest ?c_farthest ?k_farthest ?n_end_worst ?l_end_worst ?c_end_worst ?k_end_worst ?n_beginnings ?l_beginnings ?c_beginnings ?k_beginnings ?n_least_spaced ?l_least_spaced ?c_least_spaced ?k_least_spaced ?n__law_deck ?l__law_deck ?c__law_deck ?k__law_deck ?n__law_draw ?l__law_draw ?c__law_draw ?k__law_draw ?n__law_pick ?l__law_pick ?c__law_pick ?k__law_pick ?n__law_signs ?l__law_signs ?c__law_signs ?k__law_signs ?n__law_worst ?l__law_worst ?c__law_worst ?k__law_worst ?n__law_alike ?l__law_alike ?c__law_alike ?k__law_alike ?n__law_squares ?l__law_squares ?c__law_squares ?k__law_squares ?n__law_windows ?l__law_windows ?c__law_windows ?k__law_windows ?n_law ?l_law ?c_law ?k_law ?z_abs ?z_int ?z_len ?z_list ?z_max ?z_min ?z_range ?z_repr ?z_sum ?z_tuple ?z_zip)
    (case n_likeness => k_is)
    (case l_likeness => k_is)
    (case c_likeness => k_is)
    (case k_likeness => k_is)
    (case n_window_squares => k_is)
    (case l_window_squares => k_is)
    (case c_window_squares => k_is)
    (case k_window_squares => k_is)
    (case n_half_signs => k_is)
    (case l_half_signs => k_is)
    (case c_half_signs => k_is)
    (case k_half_signs => k_is)
    (case n_squares_floor => k_is)
    (case l_squares_floor => k_is)
    (case c_squares_floor => k_is)
    (case k_squares_floor => k_is)
    (case n_farthest => k_is)
    (case l_farthest => k_is)
    (case c_farthest => k_is)
    (case k_farthest => k_is)
    (case n_end_worst => k_is)
    (case l_end_worst => k_is)
    (case c_end_worst => k_is)
    (case k_end_worst => k_is)
    (case n_beginnings => k_is)
    (case l_beginnings => k_is)
    (case c_beginnings => k_is)
    (case k_beginnings => k_is)
    (case n_least_spaced => k_is)
    (case l_least_spaced => k_is)
    (case c_least_spaced => k_is)
    (case k_least_spaced => k_is)
    (case n__law_deck => k_is)
    (case l__law_deck => k_is)
    (case c__law_deck => k_is)
    (case k__law_deck => k_is)
    (case n__law_draw => k_is)
    (case l__law_draw => k_is)
    (case c__law_draw => k_is)
    (case k__law_draw => k_is)
    (case n__law_pick => k_is)
    (case l__law_pick => k_is)
    (case c__law_pick => k_is)
    (case k__law_pick => k_is)
    (case n__law_signs => k_is)
    (case l__law_signs => k_is)
    (case c__law_signs => k_is)
    (case k__law_signs => k_is)
    (case n__law_worst => k_is)
    (case l__law_worst => k_is)
    (case c__law_worst => k_is)
    (case k__law_worst => k_is)
    (case n__law_alike => k_is)
    (case l__law_alike => k_is)
    (case c__law_alike => k_is)
    (case k__law_alike => k_is)
    (case n__law_squares => k_is)
    (case l__law_squares => k_is)
    (case c__law_squares => k_is)
    (case k__law_squares => k_is)
    (case n__law_windows => k_is)
    (case l__law_windows => k_is)
    (case c__law_windows => k_is)
    (case k__law_windows => k_is)
    (case n_law => k_is)
    (case l_law => k_is)
    (case c_law => k_is)
    (case k_law => k_is)
    (case z_abs => k_is)
    (case z_int => k_is)
    (case z_len => k_is)
    (case z_list => k_is)
    (case z_max => k_is)
    (case z_min => k_is)
    (case z_range => k_is)
    (case z_repr => k_is)
    (case z_sum => k_is)
    (case z_tuple => k_is)
    (case z_zip => k_is)
