import PyProof.Rows.All
import Wide.All
import OpenK.AllK
import Wide.FinOn
import HandS.ForMost
import HandS.Defaults
import HandS.Star
import HandS.Walk
import HandS.Conv
import HandS.IsInst
import HandS.TupAny
import HandS.TupMul
import HandS.Style
import KE.GoesNew
import HandS.SetFor
import HandS.Strs
import HandS.TupSets
import HandS.Head0
import HandS.Head1
import HandS.Head2
import HandS.HeadEnd
import HandS.HeadHook1
import HandS.HeadHook2
import PySem.Challenge.RW_mendfew_k81_whole_nested_and_crossed
set_option Elab.async false
set_option linter.all false
set_option maxRecDepth 100000
set_option maxHeartbeats 2000000
namespace Ly
open PySem PySem.Spec PyProof.Rows L2

/-! heaps: all that stands still stands; some addresses hidden -/
def Ext (H H' : Hp) : Prop := ∀ a o, H a = some o → H' a = some o
theorem Ext.refl (H : Hp) : Ext H H := fun _ _ h => h
theorem Ext.trans {H1 H2 H3 : Hp} (a : Ext H1 H2) (b : Ext H2 H3) : Ext H1 H3 := fun x o h => b x o (a x o h)
theorem Ext.new {H : Hp} {p : Addr} {o : HO} (h : H p = none) : Ext H (upd H p o) := fun a u e => by
  rw [upd_ne (ne_of_none e h)]; exact e
theorem Ext.mut {B H : Hp} {p : Addr} {o : HO} (e : Ext B H) (h : B p = none) : Ext B (upd H p o) := fun a u q => by
  rw [upd_ne (ne_of_none q h)]; exact e a u q
theorem Ext.none_of {H H' : Hp} {p : Addr} (e : Ext H H') (h : H' p = none) : H p = none := by
  cases q : H p with
  | none => rfl
  | some o => rw [e p o q] at h; cases h
def hide (O : List Addr) (H : Hp) : Hp := fun a => if a ∈ O then none else H a
theorem hide_some {O : List Addr} {H : Hp} {a : Addr} {o : HO} : hide O H a = some o ↔ a ∉ O ∧ H a = some o := by
  unfold hide
  by_cases h : a ∈ O
  · rw [if_pos h]
    constructor
    · intro z; cases z
    · intro z; exact absurd h z.1
  · rw [if_neg h]
    constructor
    · intro z; exact ⟨h, z⟩
    · intro z; exact z.2
theorem hide_sub (O : List Addr) (H : Hp) : Ext (hide O H) H := fun _ _ h => (hide_some.mp h).2
theorem hide_ext {O : List Addr} {H H' : Hp} (e : Ext H H') : Ext (hide O H) (hide O H') := fun a o h => by
  obtain ⟨h1, h2⟩ := hide_some.mp h
  exact hide_some.mpr ⟨h1, e a o h2⟩
theorem hide_less {O O' : List Addr} {H : Hp} (s : ∀ p ∈ O, p ∈ O') : Ext (hide O' H) (hide O H) := fun a o h => by
  obtain ⟨h1, h2⟩ := hide_some.mp h
  exact hide_some.mpr ⟨fun z => h1 (s a z), h2⟩
theorem hide_mut {O : List Addr} {H : Hp} {p : Addr} {o : HO} (h : p ∈ O) : hide O (upd H p o) = hide O H := by
  funext a
  unfold hide
  by_cases q : a ∈ O
  · rw [if_pos q, if_pos q]
  · rw [if_neg q, if_neg q, upd_ne (fun z : a = p => q (by rw [z]; exact h))]
theorem hide_own {O : List Addr} {H : Hp} {p : Addr} {o : HO} (h : H p = none) : hide (p :: O) (upd H p o) = hide O H := by
  funext a
  unfold hide
  by_cases q : a = p
  · subst q
    rw [if_pos (List.mem_cons_self ..), h]
    split <;> rfl
  · by_cases r : a ∈ O
    · rw [if_pos (List.mem_cons_of_mem _ r), if_pos r]
    · rw [if_neg (by simp [q, r]), if_neg r, upd_ne q]
/-- hidden more: what was there before p came is there still -/
theorem hide_ext_cons {O : List Addr} {H H' : Hp} {p : Addr} (e : Ext H H') (h : H p = none) : Ext (hide O H) (hide (p :: O) H') := fun a o q => by
  obtain ⟨h1, h2⟩ := hide_some.mp q
  refine hide_some.mpr ⟨?_, e a o h2⟩
  simp only [List.mem_cons, not_or]
  exact ⟨ne_of_none h2 h, h1⟩

/-! data that stand as they are: an int, a bool, a text, None, lists and tuples of these -/
mutual
inductive Rp (H : Hp) : V → PyData → Prop
  | non : Rp H .non .none
  | bl (b : Bool) : Rp H (.bl b) (.bool b)
  | int (i : Int) : Rp H (.int i) (.int i)
  | str (x : Str) : Rp H (.str x) (.str x)
  | lst {a : Addr} {xs : List V} {ds : List PyData} : H a = some (.lst xs) → RpAll H xs ds → Rp H (.ref a) (.list ds)
  | tup {a : Addr} {xs : List V} {ds : List PyData} : H a = some (.tup xs) → RpAll H xs ds → Rp H (.ref a) (.tuple ds)
inductive RpAll (H : Hp) : List V → List PyData → Prop
  | nil : RpAll H [] []
  | cons {v : V} {vs : List V} {d : PyData} {ds : List PyData} : Rp H v d → RpAll H vs ds → RpAll H (v :: vs) (d :: ds)
end
mutual
theorem dp_ext {H H' : Hp} (e : Ext H H') : ∀ {v : V} {d : PyData}, Rp H v d → Rp H' v d
  | _, _, .non => .non
  | _, _, .bl b => .bl b
  | _, _, .int i => .int i
  | _, _, .str x => .str x
  | _, _, .lst h t => .lst (e _ _ h) (dpa_ext e t)
  | _, _, .tup h t => .tup (e _ _ h) (dpa_ext e t)
theorem dpa_ext {H H' : Hp} (e : Ext H H') : ∀ {vs : List V} {ds : List PyData}, RpAll H vs ds → RpAll H' vs ds
  | _, _, .nil => .nil
  | _, _, .cons h t => .cons (dp_ext e h) (dpa_ext e t)
end
mutual
/-- the library's own word for such data -/
theorem dp_lib {K : PySem.W.Frag} {H H' : Hp} (e : Ext H H') : ∀ {v : V} {d : PyData}, Rp H v d → Dp K H' v d
  | _, _, .non => .non
  | _, _, .bl b => .bl b
  | _, _, .int i => .int i
  | _, _, .str x => .str x
  | _, _, .lst h t => .lst (SqL.of (e _ _ h)) (dpa_lib e t)
  | _, _, .tup h t => .tup (SqT.of (e _ _ h)) (dpa_lib e t)
theorem dpa_lib {K : PySem.W.Frag} {H H' : Hp} (e : Ext H H') : ∀ {vs : List V} {ds : List PyData}, RpAll H vs ds → DpAll K H' vs ds
  | _, _, .nil => .nil
  | _, _, .cons h t => .cons (dp_lib e h) (dpa_lib e t)
end
theorem dpa_len {H : Hp} : ∀ {vs : List V} {ds : List PyData}, RpAll H vs ds → vs.length = ds.length
  | _, _, .nil => rfl
  | _, _, .cons _ t => congrArg Nat.succ (dpa_len t)
theorem dpa_get {H : Hp} : ∀ {vs : List V} {ds : List PyData} {i : Nat} {d : PyData}, RpAll H vs ds → ds[i]? = some d → ∃ v, vs[i]? = some v ∧ Rp H v d
  | _, _, 0, _, .cons h _, e => by
    have e' := Option.some.inj e
    subst e'
    exact ⟨_, rfl, h⟩
  | _, _, i + 1, _, .cons _ t, e => dpa_get (i := i) t e
theorem dpa_at {H : Hp} : ∀ {vs : List V} {ds : List PyData} {i : Nat} {d : PyData} {v : V}, RpAll H vs ds → ds[i]? = some d → vs[i]? = some v → Rp H v d := fun h e q => by
  obtain ⟨v', e1, e2⟩ := dpa_get h e
  rw [q] at e1
  cases e1
  exact e2
theorem dpa_app {H : Hp} : ∀ {vs ws : List V} {ds es : List PyData}, RpAll H vs ds → RpAll H ws es → RpAll H (vs ++ ws) (ds ++ es)
  | _, _, _, _, .nil, s => s
  | _, _, _, _, .cons h t, s => .cons h (dpa_app t s)
theorem dpa_set {H : Hp} {v : V} {d : PyData} (r : Rp H v d) : ∀ {vs : List V} {ds : List PyData} (i : Nat), RpAll H vs ds → RpAll H (vs.set i v) (ds.set i d)
  | _, _, _, .nil => .nil
  | _, _, 0, .cons _ t => .cons r t
  | _, _, i + 1, .cons h t => .cons h (dpa_set r i t)
theorem dpa_take {H : Hp} : ∀ {vs : List V} {ds : List PyData} (n : Nat), RpAll H vs ds → RpAll H (vs.take n) (ds.take n)
  | _, _, 0, _ => .nil
  | _, _, _ + 1, .nil => .nil
  | _, _, n + 1, .cons h t => .cons h (dpa_take n t)
theorem dpa_ints {H : Hp} : ∀ {vs : List V} {ns : List Int}, RpAll H vs (ns.map PyData.int) → vs = ns.map V.int
  | _, [], .nil => rfl
  | _, n :: ns, .cons h t => by
    cases h
    rw [dpa_ints t]; rfl
theorem dpa_of_ints {H : Hp} : ∀ (ns : List Int), RpAll H (ns.map V.int) (ns.map PyData.int)
  | [] => .nil
  | n :: ns => .cons (.int n) (dpa_of_ints ns)
theorem dpa_bls {H : Hp} : ∀ {vs : List V} {bs : List Bool}, RpAll H vs (bs.map PyData.bool) → vs = bs.map V.bl
  | _, [], .nil => rfl
  | _, b :: bs, .cons h t => by
    cases h
    rw [dpa_bls t]; rfl
theorem dp_int {H : Hp} {v : V} {i : Int} (h : Rp H v (.int i)) : v = .int i := by cases h; rfl
theorem dp_bl {H : Hp} {v : V} {b : Bool} (h : Rp H v (.bool b)) : v = .bl b := by cases h; rfl
theorem dp_tup {H : Hp} {v : V} {ds : List PyData} (h : Rp H v (.tuple ds)) : ∃ a vs, v = .ref a ∧ H a = some (.tup vs) ∧ RpAll H vs ds := by
  cases h with
  | tup h t => exact ⟨_, _, rfl, h, t⟩
theorem dp_lst {H : Hp} {v : V} {ds : List PyData} (h : Rp H v (.list ds)) : ∃ a vs, v = .ref a ∧ H a = some (.lst vs) ∧ RpAll H vs ds := by
  cases h with
  | lst h t => exact ⟨_, _, rfl, h, t⟩

/-! the slots of a def, by data: nothing told, a value, a list of one's own -/
inductive Sl where
  | no | val (d : PyData) | own (ds : List PyData) | pt (a : Addr)
def SlOk (O : List Addr) (H : Hp) (x : Option V) : Sl → Prop
  | .no => True
  | .val d => ∃ v, x = some v ∧ Rp (hide O H) v d
  | .pt a => x = some (.ref a)
  | .own ds => ∃ p vs, x = some (.ref p) ∧ p ∈ O ∧ H p = some (.lst vs) ∧ RpAll (hide O H) vs ds
structure En (O : List Addr) (r : List Sl) (σ : L2.St) (H : Hp) : Prop where
  len : σ.length = r.length
  sl : ∀ (i : Nat) x s, σ[i]? = some x → r[i]? = some s → SlOk O H x s
  dom : ∀ p ∈ O, H p ≠ none
  inj : ∀ (i j : Nat) p ds es, i ≠ j → r[i]? = some (.own ds) → r[j]? = some (.own es) → σ[i]? = some (some (.ref p)) → σ[j]? = some (some (.ref p)) → False
theorem SlOk.ext {O : List Addr} {H H' : Hp} {x : Option V} {s : Sl} (e : Ext H H') (h : SlOk O H x s) : SlOk O H' x s := by
  cases s with
  | no => trivial
  | pt a => exact h
  | val d => obtain ⟨v, e1, e2⟩ := h; exact ⟨v, e1, dp_ext (hide_ext e) e2⟩
  | own ds => obtain ⟨p, vs, e1, e2, e3, e4⟩ := h; exact ⟨p, vs, e1, e2, e _ _ e3, dpa_ext (hide_ext e) e4⟩
theorem En.ext {O : List Addr} {r : List Sl} {σ : L2.St} {H H' : Hp} (e : Ext H H') (h : En O r σ H) : En O r σ H' :=
  ⟨h.len, fun i x s h1 h2 => (h.sl i x s h1 h2).ext e, fun p hp z => h.dom p hp (e.none_of z), h.inj⟩
/-- one more address is one's own, that came later -/
theorem SlOk.more {O : List Addr} {H H' : Hp} {x : Option V} {s : Sl} {p : Addr} (e : Ext H H') (hp : H p = none) (h : SlOk O H x s) : SlOk (p :: O) H' x s := by
  cases s with
  | no => trivial
  | pt a => exact h
  | val d => obtain ⟨v, e1, e2⟩ := h; exact ⟨v, e1, dp_ext (hide_ext_cons e hp) e2⟩
  | own ds => obtain ⟨q, vs, e1, e2, e3, e4⟩ := h; exact ⟨q, vs, e1, List.mem_cons_of_mem _ e2, e _ _ e3, dpa_ext (hide_ext_cons e hp) e4⟩
theorem En.more {O : List Addr} {r : List Sl} {σ : L2.St} {H H' : Hp} {p : Addr} (e : Ext H H') (hp : H p = none) (hp' : H' p ≠ none) (h : En O r σ H) : En (p :: O) r σ H' :=
  ⟨h.len, fun i x s h1 h2 => (h.sl i x s h1 h2).more e hp, fun q hq z => by
    rcases List.mem_cons.mp hq with rfl | hq
    · exact hp' z
    · exact h.dom q hq (e.none_of z), h.inj⟩
theorem En.at {O : List Addr} {r : List Sl} {σ : L2.St} {H : Hp} {i : Nat} {s : Sl} (h : En O r σ H) (e : r[i]? = some s) : ∃ x, σ[i]? = some x ∧ SlOk O H x s := by
  have hl := h.len
  have hi := (List.getElem?_eq_some_iff.mp e).1
  have hi2 : i < σ.length := by omega
  exact ⟨σ[i], List.getElem?_eq_getElem hi2, h.sl i _ _ (List.getElem?_eq_getElem hi2) e⟩
theorem En.val {O : List Addr} {r : List Sl} {σ : L2.St} {H : Hp} {i : Nat} {d : PyData} (h : En O r σ H) (e : r[i]? = some (.val d)) : ∃ v, σ[i]? = some (some v) ∧ Rp (hide O H) v d := by
  obtain ⟨x, h1, v, h2, h3⟩ := h.at e
  subst h2
  exact ⟨v, h1, h3⟩
theorem En.own {O : List Addr} {r : List Sl} {σ : L2.St} {H : Hp} {i : Nat} {ds : List PyData} (h : En O r σ H) (e : r[i]? = some (.own ds)) : ∃ p vs, σ[i]? = some (some (.ref p)) ∧ p ∈ O ∧ H p = some (.lst vs) ∧ RpAll (hide O H) vs ds := by
  obtain ⟨x, h1, p, vs, h2, h3⟩ := h.at e
  subst h2
  exact ⟨p, vs, h1, h3⟩
theorem getSet {α : Type} {l : List α} {i j : Nat} {x y : α} (h : (l.set i x)[j]? = some y) : (i = j ∧ y = x ∧ i < l.length) ∨ (i ≠ j ∧ l[j]? = some y) := by
  by_cases e : i = j
  · subst e
    by_cases q : i < l.length
    · rw [List.getElem?_set_self q] at h
      exact .inl ⟨rfl, (Option.some.inj h).symm, q⟩
    · rw [List.getElem?_eq_none (by simpa using q)] at h
      cases h
  · rw [List.getElem?_set_ne e] at h
    exact .inr ⟨e, h⟩
/-- a value is stored -/
theorem En.setVal {O : List Addr} {r : List Sl} {σ : L2.St} {H : Hp} {v : V} {d : PyData} (i : Nat) (h : En O r σ H) (hv : Rp (hide O H) v d) : En O (r.set i (.val d)) (σ.set i (some v)) H := by
  refine ⟨by rw [List.length_set, List.length_set]; exact h.len, fun j x s h1 h2 => ?_, h.dom, fun j l p ds es ne h1 h2 h3 h4 => ?_⟩
  · rcases getSet h1 with ⟨e, e1, _⟩ | ⟨e, e1⟩
    · rcases getSet h2 with ⟨_, e2, _⟩ | ⟨e', _⟩
      · subst e1 e2; exact ⟨v, rfl, hv⟩
      · exact absurd e e'
    · rcases getSet h2 with ⟨e', _, _⟩ | ⟨_, e2⟩
      · exact absurd e' e
      · exact h.sl j x s e1 e2
  · rcases getSet h1 with ⟨_, z, _⟩ | ⟨n1, e1⟩
    · cases z
    · rcases getSet h2 with ⟨_, z, _⟩ | ⟨n2, e2⟩
      · cases z
      · rw [List.getElem?_set_ne n1] at h3
        rw [List.getElem?_set_ne n2] at h4
        exact h.inj j l p ds es ne e1 e2 h3 h4
/-- a slot is forgotten -/
theorem En.setNo {O : List Addr} {r : List Sl} {σ : L2.St} {H : Hp} (x : Option V) (i : Nat) (h : En O r σ H) : En O (r.set i .no) (σ.set i x) H := by
  refine ⟨by rw [List.length_set, List.length_set]; exact h.len, fun j y s h1 h2 => ?_, h.dom, fun j l p ds es ne h1 h2 h3 h4 => ?_⟩
  · rcases getSet h1 with ⟨e, e1, _⟩ | ⟨e, e1⟩
    · rcases getSet h2 with ⟨_, e2, _⟩ | ⟨e', _⟩
      · subst e2; trivial
      · exact absurd e e'
    · rcases getSet h2 with ⟨e', _, _⟩ | ⟨_, e2⟩
      · exact absurd e' e
      · exact h.sl j y s e1 e2
  · rcases getSet h1 with ⟨_, z, _⟩ | ⟨n1, e1⟩
    · cases z
    · rcases getSet h2 with ⟨_, z, _⟩ | ⟨n2, e2⟩
      · cases z
      · rw [List.getElem?_set_ne n1] at h3
        rw [List.getElem?_set_ne n2] at h4
        exact h.inj j l p ds es ne e1 e2 h3 h4
/-- a list of one's own is stored: its address was hidden beforehand -/
theorem En.setOwn {O : List Addr} {r : List Sl} {σ : L2.St} {H : Hp} {p : Addr} {vs : List V} {ds : List PyData} (i : Nat) (h : En O r σ H) (hp : p ∈ O) (hH : H p = some (.lst vs)) (hv : RpAll (hide O H) vs ds)
    (hn : ∀ (j : Nat) es, i ≠ j → r[j]? = some (.own es) → σ[j]? ≠ some (some (.ref p))) : En O (r.set i (.own ds)) (σ.set i (some (.ref p))) H := by
  refine ⟨by rw [List.length_set, List.length_set]; exact h.len, fun j x s h1 h2 => ?_, h.dom, fun j l q ds' es ne h1 h2 h3 h4 => ?_⟩
  · rcases getSet h1 with ⟨e, e1, _⟩ | ⟨e, e1⟩
    · rcases getSet h2 with ⟨_, e2, _⟩ | ⟨e', _⟩
      · subst e1 e2; exact ⟨p, vs, rfl, hp, hH, hv⟩
      · exact absurd e e'
    · rcases getSet h2 with ⟨e', _, _⟩ | ⟨_, e2⟩
      · exact absurd e' e
      · exact h.sl j x s e1 e2
  · rcases getSet h3 with ⟨e3, z3, _⟩ | ⟨n3, q3⟩
    · cases z3
      rcases getSet h4 with ⟨e4, _, _⟩ | ⟨n4, q4⟩
      · exact ne (e3.symm.trans e4)
      · rw [List.getElem?_set_ne n4] at h2
        exact hn l es n4 h2 q4
    · rw [List.getElem?_set_ne n3] at h1
      rcases getSet h4 with ⟨e4, z4, _⟩ | ⟨n4, q4⟩
      · cases z4
        exact hn j ds' n3 h1 q3
      · rw [List.getElem?_set_ne n4] at h2
        exact h.inj j l q ds' es ne h1 h2 q3 q4
/-- one's own list is changed -/
theorem En.change {O : List Addr} {r : List Sl} {σ : L2.St} {H : Hp} {p : Addr} {vs : List V} {ds es : List PyData} {i : Nat} (h : En O r σ H) (e : r[i]? = some (.own ds)) (hp : σ[i]? = some (some (.ref p))) (hv : RpAll (hide O H) vs es) : En O (r.set i (.own es)) σ (upd H p (.lst vs)) := by
  obtain ⟨p', vs', q1, q2, q3, q4⟩ := h.own e
  rw [hp] at q1
  cases q1
  have hh : hide O (upd H p (.lst vs)) = hide O H := hide_mut q2
  refine ⟨by rw [List.length_set]; exact h.len, fun j x s h1 h2 => ?_, fun q hq z => ?_, fun j l q ds' es' ne h1 h2 h3 h4 => ?_⟩
  · rcases getSet h2 with ⟨e1, e2, _⟩ | ⟨e1, e2⟩
    · subst e1 e2
      rw [hp] at h1
      cases h1
      exact ⟨p, vs, rfl, q2, upd_same, by rw [hh]; exact hv⟩
    · have q := h.sl j x s h1 e2
      cases s with
      | no => trivial
      | pt a => exact q
      | val d => obtain ⟨v, a1, a2⟩ := q; exact ⟨v, a1, by rw [hh]; exact a2⟩
      | own es' =>
        obtain ⟨q', vs2, a1, a2, a3, a4⟩ := q
        subst a1
        have nq : q' ≠ p := fun z => h.inj i j p ds es' e1 e e2 hp (z ▸ h1)
        exact ⟨q', vs2, rfl, a2, by rw [upd_ne nq]; exact a3, by rw [hh]; exact a4⟩
  · by_cases w : q = p
    · subst w; rw [upd_same] at z; cases z
    · rw [upd_ne w] at z; exact h.dom q hq z
  · have f : ∀ (j : Nat) ds', (r.set i (.own es))[j]? = some (.own ds') → ∃ ds'', r[j]? = some (.own ds'') := fun j ds' hj => by
      rcases getSet hj with ⟨e1, _, _⟩ | ⟨_, e2⟩
      · subst e1; exact ⟨ds, e⟩
      · exact ⟨ds', e2⟩
    obtain ⟨a, ha⟩ := f j ds' h1
    obtain ⟨b, hb⟩ := f l es' h2
    exact h.inj j l q a b ne ha hb h3 h4
theorem wipeR_len (r : List Sl) (vs : List Nat) : (vs.foldr (fun v z => z.set v .no) r).length = r.length := by
  induction vs with
  | nil => rfl
  | cons v vs ih => rw [List.foldr_cons, List.length_set, ih]
/-- the comprehension's own slots forgotten -/
def wipeR (r : List Sl) : List Nat → List Sl
  | [] => r
  | v :: vs => (wipeR r vs).set v .no
theorem En.wipe {O : List Addr} {r : List Sl} {σ : L2.St} {H : Hp} (h : En O r σ H) : ∀ vs : List Nat, En O (wipeR r vs) (L2.wipe σ vs) H
  | [] => h
  | v :: vs => (h.wipe vs).setNo none v
end Ly
set_option Elab.async false
set_option linter.all false
set_option maxRecDepth 100000
set_option maxHeartbeats 2000000
namespace Ly
open PySem PySem.Spec PyProof.Rows L2

abbrev ME := List Sl → Option PyData
abbrev MB := List Sl → Option Bool
abbrev ML := List Sl → Option (List PyData)
/-- a list that may be one's own -/
def Wk (O : List Addr) (H : Hp) (v : V) (d : PyData) : Prop := Rp (hide O H) v d ∨ ∃ p vs ds, v = .ref p ∧ d = .list ds ∧ H p = some (.lst vs) ∧ RpAll (hide O H) vs ds
def TD (m : ME) : TE := fun σ H Q => ∃ O r d, En O r σ H ∧ m r = some d ∧ ∀ v H', Ext H H' → Rp (hide O H') v d → Q v H'
def TW (m : ME) : TE := fun σ H Q => ∃ O r d, En O r σ H ∧ m r = some d ∧ ∀ v H', Ext H H' → Wk O H' v d → Q v H'
def TN (m : ML) : TE := fun σ H Q => ∃ O r ds, En O r σ H ∧ m r = some ds ∧ ∀ p vs H', H p = none → Ext H H' → H' p = some (.lst vs) → RpAll (hide (p :: O) H') vs ds → Q (.ref p) H'
def TB (m : MB) : TT := fun σ H Q => ∃ O r b, En O r σ H ∧ m r = some b ∧ ∀ H', Ext H H' → Q b H'
def TL (m : ML) : TA := fun σ H Q => ∃ O r ds, En O r σ H ∧ m r = some ds ∧ ∀ vs H', Ext H H' → RpAll (hide O H') vs ds → Q vs H'
section
variable {X : Cx}
theorem peW {e : Expr} {t t' : TE} (h : PE X e t) (w : ∀ σ H Q, t' σ H Q → t σ H Q) : PE X e t' := ⟨fun pins s σ H Q I q => h.run pins s σ H Q I (w σ H Q q)⟩
theorem ptW {e : Expr} {t t' : TT} (h : PT X e t) (w : ∀ σ H Q, t' σ H Q → t σ H Q) : PT X e t' := ⟨fun pins s σ H Q I q => h.run pins s σ H Q I (w σ H Q q)⟩
theorem pwW {e : Expr} {t t' : TT} (h : PW X e t) (w : ∀ σ H Q, t' σ H Q → t σ H Q) : PW X e t' := ⟨fun wh pins s σ H Q I q => h.run wh pins s σ H Q I (w σ H Q q)⟩
theorem paW {e : List Expr} {t t' : TA} (h : PA X e t) (w : ∀ σ H Q, t' σ H Q → t σ H Q) : PA X e t' := ⟨fun p pins s σ H Q I q => h.run p pins s σ H Q I (w σ H Q q)⟩
/-! data apart -/
def asInt : PyData → Option Int
  | .int i => some i
  | _ => none
def asBool : PyData → Option Bool
  | .bool b => some b
  | _ => none
def asSeq : PyData → Option (List PyData)
  | .list ds => some ds
  | .tuple ds => some ds
  | _ => none
def asLst : PyData → Option (List PyData)
  | .list ds => some ds
  | _ => none
def asTup : PyData → Option (List PyData)
  | .tuple ds => some ds
  | _ => none
theorem asInt_ok {d : PyData} {i : Int} (h : asInt d = some i) : d = .int i := by cases d <;> cases h; rfl
theorem asBool_ok {d : PyData} {b : Bool} (h : asBool d = some b) : d = .bool b := by cases d <;> cases h; rfl
theorem asSeq_ok {d : PyData} {ds : List PyData} (h : asSeq d = some ds) : d = .list ds ∨ d = .tuple ds := by
  cases d <;> cases h
  · exact .inl rfl
  · exact .inr rfl
theorem asLst_ok {d : PyData} {ds : List PyData} (h : asLst d = some ds) : d = .list ds := by cases d <;> cases h; rfl
theorem asTup_ok {d : PyData} {ds : List PyData} (h : asTup d = some ds) : d = .tuple ds := by cases d <;> cases h; rfl
theorem bind_some {α β : Type} {x : Option α} {f : α → Option β} {b : β} (h : x.bind f = some b) : ∃ a, x = some a ∧ f a = some b := by
  cases x with
  | none => cases h
  | some a => exact ⟨a, rfl, h⟩
theorem map_some {α β : Type} {x : Option α} {f : α → β} {b : β} (h : x.map f = some b) : ∃ a, x = some a ∧ f a = b := by
  cases x with
  | none => cases h
  | some a => exact ⟨a, rfl, Option.some.inj h⟩

/-! names, constants -/
def mVar (i : Nat) : ME := fun r => match r[i]? with
  | some (.val d) => some d
  | _ => none
def mOwn (i : Nat) : ME := fun r => match r[i]? with
  | some (.own ds) => some (.list ds)
  | _ => none
def mC (d : PyData) : ME := fun _ => some d
theorem mVar_ok {i : Nat} {r : List Sl} {d : PyData} (h : mVar i r = some d) : r[i]? = some (.val d) := by
  unfold mVar at h
  split at h
  · next e => cases h; exact e
  · cases h
theorem mOwn_ok {i : Nat} {r : List Sl} {d : PyData} (h : mOwn i r = some d) : ∃ ds, d = .list ds ∧ r[i]? = some (.own ds) := by
  unfold mOwn at h
  split at h
  · next e => cases h; exact ⟨_, rfl, e⟩
  · cases h
theorem de_var (i : Nat) {x : Str} {pos : Pos} (hN : X.N[i]? = some x := by rfl) (hv : Vis X.env.scope x := by first | exact Or.inl rfl | exact Or.inr (Or.inl rfl) | exact Or.inr (Or.inr rfl)) (hd : (x == ("__debug__" : Str)) = false := by decide)
    (hcd : (x == ("__classdict__" : Str)) = false := by decide) : PE X (.Name x pos) (TD (mVar i)) := peW (pe_var hN hv hd hcd) fun σ H Q ⟨O, r, d, E, hm, k⟩ => by
  obtain ⟨v, e, hv⟩ := E.val (mVar_ok hm)
  exact ⟨v, e, k v H (Ext.refl H) hv⟩
theorem dw_own (i : Nat) {x : Str} {pos : Pos} (hN : X.N[i]? = some x := by rfl) (hv : Vis X.env.scope x := by first | exact Or.inl rfl | exact Or.inr (Or.inl rfl) | exact Or.inr (Or.inr rfl)) (hd : (x == ("__debug__" : Str)) = false := by decide)
    (hcd : (x == ("__classdict__" : Str)) = false := by decide) : PE X (.Name x pos) (TW (mOwn i)) := peW (pe_var hN hv hd hcd) fun σ H Q ⟨O, r, d, E, hm, k⟩ => by
  obtain ⟨ds, e0, e⟩ := mOwn_ok hm
  obtain ⟨p, vs, e1, _, e3, e4⟩ := E.own e
  exact ⟨.ref p, e1, k _ H (Ext.refl H) (.inr ⟨p, vs, ds, rfl, e0, e3, e4⟩)⟩
theorem de_w {e : Expr} {m : ME} (h : PE X e (TD m)) : PE X e (TW m) := peW h fun σ H Q ⟨O, r, d, E, hm, k⟩ => ⟨O, r, d, E, hm, fun v H' x q => k v H' x (.inl q)⟩
theorem dn_w {e : Expr} {m : ML} (h : PE X e (TN m)) : PE X e (TD fun r => (m r).map PyData.list) := peW h fun σ H Q ⟨O, r, d, E, hm, k⟩ => by
  obtain ⟨ds, e1, e2⟩ := map_some hm
  subst e2
  exact ⟨O, r, ds, E, e1, fun p vs H' hp x hv q => k _ H' x (.lst (hide_some.mpr ⟨fun z => E.dom p z hp, hv⟩) (dpa_ext (hide_less fun y hy => List.mem_cons_of_mem _ hy) q))⟩
theorem de_c {e : Expr} {v : V} {d : PyData} (h : PE X e (tC v)) (hd : ∀ H, Rp H v d) : PE X e (TD (mC d)) := peW h fun σ H Q ⟨O, r, d', E, hm, k⟩ => by
  have e := Option.some.inj hm
  subst e
  exact k v H (Ext.refl H) (hd _)
theorem de_int {i : Int} {j : Nat} {pos : Pos} : PE X (.Constant (.int i) j pos) (TD (mC (.int i))) := de_c pe_int fun _ => .int i
theorem de_bl {i : Bool} {j : Nat} {pos : Pos} : PE X (.Constant (.bool i) j pos) (TD (mC (.bool i))) := de_c pe_bl fun _ => .bl i
theorem de_non {j : Nat} {pos : Pos} : PE X (.Constant .none j pos) (TD (mC .none)) := de_c pe_non fun _ => .non
theorem de_str {i : Str} {j : Nat} {pos : Pos} : PE X (.Constant (.str i) j pos) (TD (mC (.str i))) := de_c pe_str fun _ => .str i
theorem de_globI {x : Str} {i : Int} {pos : Pos} (hg : Gl X x) (hm : ∃ t, X.mg x = some (.int i t)) (hd : (x == ("__debug__" : Str)) = false := by decide) : PE X (.Name x pos) (TD (mC (.int i))) := by
  obtain ⟨t, e⟩ := hm
  exact de_c (pe_glob (v := .int i) hg e ⟨t, rfl⟩ hd) fun _ => .int i

/-! whole numbers -/
def iM (m : ME) : List Sl → Option Int := fun r => (m r).bind asInt
theorem iM_ok {m : ME} {r : List Sl} {i : Int} (h : iM m r = some i) : m r = some (.int i) := by
  obtain ⟨d, e1, e2⟩ := bind_some h
  rw [e1, asInt_ok e2]
def mBin (g : Int → Int → Option Int) (a b : ME) : ME := fun r => (iM a r).bind fun i => (iM b r).bind fun j => (g i j).map PyData.int
def gAdd : Int → Int → Option Int := fun i j => some (i + j)
def gSub : Int → Int → Option Int := fun i j => some (i - j)
def gMul : Int → Int → Option Int := fun i j => if -18446744073709551616 < i ∧ i < 18446744073709551616 then some (i * j) else none
def gMod : Int → Int → Option Int := fun i j => if 0 < j then some (i % j) else none
def gDiv : Int → Int → Option Int := fun i j => if 0 < j ∧ j < 1073741824 then some (i / j) else none
variable {a b c : Expr} {ma mb mc : ME} {pos : Pos}
/-- two whole numbers, one behind the other -/
theorem two {σ : L2.St} {H : Hp} {O : List Addr} {r : List Sl} {i j : Int} {R : V → V → Hp → Prop} (E : En O r σ H) (h1 : ma r = some (.int i)) (h2 : mb r = some (.int j)) (k : ∀ H', Ext H H' → R (.int i) (.int j) H') :
    TD ma σ H fun x H1 => TD mb σ H1 fun y H2 => R x y H2 :=
  ⟨O, r, _, E, h1, fun v H1 x1 q1 => ⟨O, r, _, E.ext x1, h2, fun w H2 x2 q2 => by rw [dp_int q1, dp_int q2]; exact k H2 (x1.trans x2)⟩⟩
theorem de_bin {op : Operator} {q : R2} {g : Int → Int → Option Int} (ho : OpR X (binaryOp op) q) (hq : ∀ i j k H Q, g i j = some k → Q (.int k) H → q (.int i) (.int j) H Q)
    (ha : PE X a (TD ma)) (hb : PE X b (TD mb)) : PE X (.BinOp a op b pos) (TD (mBin g ma mb)) := peW (pe_op ho ha hb) fun σ H Q ⟨O, r, d, E, hm, k⟩ => by
  obtain ⟨i, e1, hm⟩ := bind_some hm
  obtain ⟨j, e2, hm⟩ := bind_some hm
  obtain ⟨n, e3, hm⟩ := map_some hm
  subst hm
  exact two E (iM_ok e1) (iM_ok e2) fun H' x => hq i j n H' Q e3 (k _ H' x (.int n))
theorem de_add (ha : PE X a (TD ma)) (hb : PE X b (TD mb)) : PE X (.BinOp a .Add b pos) (TD (mBin gAdd ma mb)) := de_bin op_add (fun i j k H Q e q => by cases e; exact ⟨i, j, rfl, rfl, q⟩) ha hb
theorem de_sub (ha : PE X a (TD ma)) (hb : PE X b (TD mb)) : PE X (.BinOp a .Sub b pos) (TD (mBin gSub ma mb)) := de_bin op_sub (fun i j k H Q e q => by cases e; exact ⟨i, j, rfl, rfl, q⟩) ha hb
theorem de_mul (ha : PE X a (TD ma)) (hb : PE X b (TD mb)) : PE X (.BinOp a .Mult b pos) (TD (mBin gMul ma mb)) := de_bin op_mul (fun i j k H Q e q => by
  unfold gMul at e
  split at e
  · next c => cases e; exact ⟨i, j, rfl, rfl, .inl ⟨by have := c.1; omega, by have := c.2; omega⟩, q⟩
  · cases e) ha hb
theorem de_mod (ha : PE X a (TD ma)) (hb : PE X b (TD mb)) : PE X (.BinOp a .Mod b pos) (TD (mBin gMod ma mb)) := de_bin op_mod (fun i j k H Q e q => by
  unfold gMod at e
  split at e
  · next c => cases e; exact ⟨i, j, rfl, rfl, c, q⟩
  · cases e) ha hb
theorem de_div (ha : PE X a (TD ma)) (hb : PE X b (TD mb)) : PE X (.BinOp a .FloorDiv b pos) (TD (mBin gDiv ma mb)) := de_bin op_fdiv (fun i j k H Q e q => by
  unfold gDiv at e
  split at e
  · next c => cases e; exact ⟨i, j, rfl, rfl, c, q⟩
  · cases e) ha hb
def mNeg (a : ME) : ME := fun r => (iM a r).map fun i => .int (-i)
theorem de_neg (ha : PE X a (TD ma)) : PE X (.UnaryOp .USub a pos) (TD (mNeg ma)) := peW (pe_un un_neg ha) fun σ H Q ⟨O, r, d, E, hm, k⟩ => by
  obtain ⟨i, e1, hm⟩ := map_some hm
  subst hm
  exact ⟨O, r, _, E, iM_ok e1, fun v H1 x1 q1 => ⟨i, dp_int q1, k _ H1 x1 (.int _)⟩⟩

/-! comparisons of whole numbers -/
def mCmpB (p : Int → Int → Bool) (a b : ME) : MB := fun r => (iM a r).bind fun i => (iM b r).map fun j => p i j
def bE (m : MB) : ME := fun r => (m r).map PyData.bool
theorem de_cmp {op : CmpOp} {q : R2} {p : Int → Int → Bool} (ho : OpR X (compareOp op) q) (hq : ∀ i j H Q, Q (.bl (p i j)) H → q (.int i) (.int j) H Q) (hmk : behindInMarks op b = false)
    (ha : PE X a (TD ma)) (hb : PE X b (TD mb)) : PE X (.Compare a [op] [b] pos) (TD (bE (mCmpB p ma mb))) := peW (pe_cmpR ho ha hb hmk) fun σ H Q ⟨O, r, d, E, hm, k⟩ => by
  obtain ⟨bb, e0, hm⟩ := map_some hm
  obtain ⟨i, e1, e0⟩ := bind_some e0
  obtain ⟨j, e2, e0⟩ := map_some e0
  subst e0 hm
  exact two E (iM_ok e1) (iM_ok e2) fun H' x => hq i j H' Q (k _ H' x (.bl _))
theorem dt_cmp {op : CmpOp} {q : R2} {p : Int → Int → Bool} (ho : OpR X (compareOp op) q) (hq : ∀ i j H Q, Q (.bl (p i j)) H → q (.int i) (.int j) H Q) (hmk : behindInMarks op b = false)
    (ha : PE X a (TD ma)) (hb : PE X b (TD mb)) : PT X (.Compare a [op] [b] pos) (TB (mCmpB p ma mb)) := ptW (pt_cmpR ho ha hb hmk) fun σ H Q ⟨O, r, d, E, hm, k⟩ => by
  obtain ⟨i, e1, e0⟩ := bind_some hm
  obtain ⟨j, e2, e0⟩ := map_some e0
  subst e0
  exact two (R := fun x y H2 => q x y H2 fun x H' => ∃ k, x = .bl k ∧ Q k H') E (iM_ok e1) (iM_ok e2) fun H' x => hq i j H' _ ⟨_, rfl, k H' x⟩
abbrev pLt : Int → Int → Bool := fun i j => decide (i < j)
abbrev pLe : Int → Int → Bool := fun i j => decide (i ≤ j)
abbrev pGt : Int → Int → Bool := fun i j => decide (j < i)
abbrev pGe : Int → Int → Bool := fun i j => decide (j ≤ i)
abbrev pEq : Int → Int → Bool := fun i j => i == j
abbrev pNe : Int → Int → Bool := fun i j => !(i == j)
theorem rI0_ok {p : Int → Int → Bool} : ∀ i j H (Q : VK), Q (.bl (p i j)) H → rI0 (fun i j => .bl (p i j)) (.int i) (.int j) H Q := fun i j H Q q => ⟨i, j, rfl, rfl, q⟩
theorem rEq_ok : ∀ i j H (Q : VK), Q (.bl (pEq i j)) H → rEq (.int i) (.int j) H Q := fun i j H Q q => ⟨rfl, by rw [dec_int]; exact q⟩
theorem rNe_ok : ∀ i j H (Q : VK), Q (.bl (pNe i j)) H → rNe (.int i) (.int j) H Q := fun i j H Q q => ⟨rfl, by rw [dec_int]; exact q⟩
theorem de_lt (ha : PE X a (TD ma)) (hb : PE X b (TD mb)) : PE X (.Compare a [.Lt] [b] pos) (TD (bE (mCmpB pLt ma mb))) := de_cmp op_lt rI0_ok (nomark _) ha hb
theorem de_le (ha : PE X a (TD ma)) (hb : PE X b (TD mb)) : PE X (.Compare a [.LtE] [b] pos) (TD (bE (mCmpB pLe ma mb))) := de_cmp op_le rI0_ok (nomark _) ha hb
theorem de_gt (ha : PE X a (TD ma)) (hb : PE X b (TD mb)) : PE X (.Compare a [.Gt] [b] pos) (TD (bE (mCmpB pGt ma mb))) := de_cmp op_gt rI0_ok (nomark _) ha hb
theorem de_ge (ha : PE X a (TD ma)) (hb : PE X b (TD mb)) : PE X (.Compare a [.GtE] [b] pos) (TD (bE (mCmpB pGe ma mb))) := de_cmp op_ge rI0_ok (nomark _) ha hb
theorem de_eq (ha : PE X a (TD ma)) (hb : PE X b (TD mb)) : PE X (.Compare a [.Eq] [b] pos) (TD (bE (mCmpB pEq ma mb))) := de_cmp op_eq rEq_ok (nomark _) ha hb
theorem de_ne (ha : PE X a (TD ma)) (hb : PE X b (TD mb)) : PE X (.Compare a [.NotEq] [b] pos) (TD (bE (mCmpB pNe ma mb))) := de_cmp op_ne rNe_ok (nomark _) ha hb
theorem dt_lt (ha : PE X a (TD ma)) (hb : PE X b (TD mb)) : PT X (.Compare a [.Lt] [b] pos) (TB (mCmpB pLt ma mb)) := dt_cmp op_lt rI0_ok (nomark _) ha hb
theorem dt_le (ha : PE X a (TD ma)) (hb : PE X b (TD mb)) : PT X (.Compare a [.LtE] [b] pos) (TB (mCmpB pLe ma mb)) := dt_cmp op_le rI0_ok (nomark _) ha hb
theorem dt_gt (ha : PE X a (TD ma)) (hb : PE X b (TD mb)) : PT X (.Compare a [.Gt] [b] pos) (TB (mCmpB pGt ma mb)) := dt_cmp op_gt rI0_ok (nomark _) ha hb
theorem dt_ge (ha : PE X a (TD ma)) (hb : PE X b (TD mb)) : PT X (.Compare a [.GtE] [b] pos) (TB (mCmpB pGe ma mb)) := dt_cmp op_ge rI0_ok (nomark _) ha hb
theorem dt_eq (ha : PE X a (TD ma)) (hb : PE X b (TD mb)) : PT X (.Compare a [.Eq] [b] pos) (TB (mCmpB pEq ma mb)) := dt_cmp op_eq rEq_ok (nomark _) ha hb
theorem dt_ne (ha : PE X a (TD ma)) (hb : PE X b (TD mb)) : PT X (.Compare a [.NotEq] [b] pos) (TB (mCmpB pNe ma mb)) := dt_cmp op_ne rNe_ok (nomark _) ha hb
/-- a < b < c, a < b <= c -/
def mChainB (p q : Int → Int → Bool) (a b c : ME) : MB := fun r => (iM a r).bind fun i => (iM b r).bind fun j => if p i j then (iM c r).map fun k => q j k else some false
theorem two3 {σ : L2.St} {H : Hp} {O : List Addr} {r : List Sl} {p q : Int → Int → Bool} {bb : Bool} {Q : VK} (E : En O r σ H) (hm : mChainB p q ma mb mc r = some bb) (k : ∀ H', Ext H H' → Q (.bl bb) H') :
    tChain (rI0 fun i j => .bl (p i j)) (rI0 fun i j => .bl (q i j)) (TD ma) (TD mb) (TD mc) σ H Q := by
  obtain ⟨i, e1, hm⟩ := bind_some hm
  obtain ⟨j, e2, hm⟩ := bind_some hm
  refine ⟨O, r, _, E, iM_ok e1, fun v H1 x1 q1 => ⟨O, r, _, E.ext x1, iM_ok e2, fun w H2 x2 q2 => ⟨i, j, dp_int q1, dp_int q2, p i j, rfl, ?_⟩⟩⟩
  split at hm
  · next hc =>
    rw [if_pos hc]
    obtain ⟨l, e3, hm⟩ := map_some hm
    subst hm
    exact ⟨O, r, _, (E.ext x1).ext x2, iM_ok e3, fun u H3 x3 q3 => ⟨j, l, dp_int q2, dp_int q3, k H3 ((x1.trans x2).trans x3)⟩⟩
  · next hc =>
    rw [if_neg hc]
    cases hm
    exact k H2 (x1.trans x2)
theorem dt_ltlt (ha : PE X a (TD ma)) (hb : PE X b (TD mb)) (hc : PE X c (TD mc)) (hk : lastMarks [.Lt, .Lt] [b, c] = false := by with_unfolding_all rfl) : PT X (.Compare a [.Lt, .Lt] [b, c] pos) (TB (mChainB pLt pLt ma mb mc)) :=
  ptW (pt_chain op_lt op_lt ha hb hc hk) fun σ H Q ⟨O, r, d, E, hm, k⟩ => two3 (Q := fun x H' => ∃ k, x = .bl k ∧ Q k H') E hm fun H' x => ⟨_, rfl, k H' x⟩
theorem de_ltle (ha : PE X a (TD ma)) (hb : PE X b (TD mb)) (hc : PE X c (TD mc)) (hk : lastMarks [.Lt, .LtE] [b, c] = false := by with_unfolding_all rfl) : PE X (.Compare a [.Lt, .LtE] [b, c] pos) (TD (bE (mChainB pLt pLe ma mb mc))) :=
  peW (pe_chain op_lt op_le ha hb hc hk) fun σ H Q ⟨O, r, d, E, hm, k⟩ => by
    obtain ⟨bb, e0, hm⟩ := map_some hm
    subst hm
    exact two3 E e0 fun H' x => k _ H' x (.bl _)

/-! tests -/
def bM (m : ME) : MB := fun r => (m r).bind asBool
theorem bM_ok {m : ME} {r : List Sl} {b : Bool} (h : bM m r = some b) : m r = some (.bool b) := by
  obtain ⟨d, e1, e2⟩ := bind_some h
  rw [e1, asBool_ok e2]
theorem dt_val (h : PE X a (TD ma)) (he : ∀ whole, isTrue a X.env whole = (do let v ← whole; standAt a.pos; holding [v] (truthy v)) := by intro _; rfl) : PT X a (TB (bM ma)) := ptW (pt_val h he) fun σ H Q ⟨O, r, b, E, hm, k⟩ =>
  ⟨O, r, _, E, bM_ok hm, fun v H' x q => ⟨b, dp_bl q, k H' x⟩⟩
variable {ta tb : MB} {es : List Expr}
def mNotB (t : MB) : MB := fun r => (t r).map fun b => !b
theorem dt_not (h : PT X a (TB ta)) : PT X (.UnaryOp .Not a pos) (TB (mNotB ta)) := ptW (pt_not h) fun σ H Q ⟨O, r, b, E, hm, k⟩ => by
  obtain ⟨b', e1, e2⟩ := map_some hm
  subst e2
  exact ⟨O, r, b', E, e1, fun H' x => k H' x⟩
def mAndB (t u : MB) : MB := fun r => (t r).bind fun b => if b then u r else some false
def mOrB (t u : MB) : MB := fun r => (t r).bind fun b => if b then some true else u r
theorem dq_and1 (h : PT X a (TB ta)) : PW X (.BoolOp .And [a] pos) (TB ta) := pw_and1 h
theorem dq_or1 (h : PT X a (TB ta)) : PW X (.BoolOp .Or [a] pos) (TB ta) := pw_or1 h
theorem dq_and (ha : PT X a (TB ta)) (hb : PW X (.BoolOp .And (b :: es) pos) (TB tb)) : PW X (.BoolOp .And (a :: b :: es) pos) (TB (mAndB ta tb)) := pwW (pw_and ha hb) fun σ H Q ⟨O, r, d, E, hm, k⟩ => by
  obtain ⟨c, e1, e2⟩ := bind_some hm
  refine ⟨O, r, c, E, e1, fun H' x => ?_⟩
  cases c with
  | true => exact ⟨O, r, d, E.ext x, e2, fun H2 x2 => k H2 (x.trans x2)⟩
  | false => cases e2; exact k H' x
theorem dq_or (ha : PT X a (TB ta)) (hb : PW X (.BoolOp .Or (b :: es) pos) (TB tb)) : PW X (.BoolOp .Or (a :: b :: es) pos) (TB (mOrB ta tb)) := pwW (pw_or ha hb) fun σ H Q ⟨O, r, d, E, hm, k⟩ => by
  obtain ⟨c, e1, e2⟩ := bind_some hm
  refine ⟨O, r, c, E, e1, fun H' x => ?_⟩
  cases c with
  | true => cases e2; exact k H' x
  | false => exact ⟨O, r, d, E.ext x, e2, fun H2 x2 => k H2 (x.trans x2)⟩
theorem dt_q (h : PW X a (TB ta)) : PT X a (TB ta) := h.pt
/-- and as a value, all but the last a bool -/
def mAnd (t u : ME) : ME := fun r => (bM t r).bind fun b => if b then u r else some (.bool false)
theorem de_one {op : BoolOp} (h : PE X a (TD ma)) : PE X (.BoolOp op [a] pos) (TD ma) := pe_one h
theorem de_and (ha : PE X a (TD ma)) (hb : PE X (.BoolOp .And (b :: es) pos) (TD mb)) : PE X (.BoolOp .And (a :: b :: es) pos) (TD (mAnd ma mb)) := peW (pe_and ha hb) fun σ H Q ⟨O, r, d, E, hm, k⟩ => by
  obtain ⟨c, e1, e2⟩ := bind_some hm
  refine ⟨O, r, _, E, bM_ok e1, fun v H' x q => ⟨c, dp_bl q, ?_⟩⟩
  cases c with
  | true => exact ⟨O, r, d, E.ext x, e2, fun w H2 x2 q2 => k w H2 (x.trans x2) q2⟩
  | false => cases e2; exact k _ H' x (.bl false)
def mNot (t : ME) : ME := fun r => (bM t r).map fun b => .bool (!b)
theorem de_not (ha : PE X a (TD ma)) : PE X (.UnaryOp .Not a pos) (TD (mNot ma)) := peW (pe_not ha) fun σ H Q ⟨O, r, d, E, hm, k⟩ => by
  obtain ⟨c, e1, e2⟩ := map_some hm
  subst e2
  exact ⟨O, r, _, E, bM_ok e1, fun v H' x q => ⟨c, dp_bl q, k _ H' x (.bl _)⟩⟩
def mIf (t : MB) (u w : ME) : ME := fun r => (t r).bind fun b => if b then u r else w r
theorem de_if (hc : PT X c (TB ta)) (ha : PE X a (TD ma)) (hb : PE X b (TD mb)) : PE X (.IfExp c a b pos) (TD (mIf ta ma mb)) := peW (pe_ifExp hc ha hb) fun σ H Q ⟨O, r, d, E, hm, k⟩ => by
  obtain ⟨t, e1, e2⟩ := bind_some hm
  refine ⟨O, r, t, E, e1, fun H' x => ?_⟩
  cases t with
  | true => exact ⟨O, r, d, E.ext x, e2, fun w H2 x2 q2 => k w H2 (x.trans x2) q2⟩
  | false => exact ⟨O, r, d, E.ext x, e2, fun w H2 x2 q2 => k w H2 (x.trans x2) q2⟩
/-- is None -/
def mIsN (a : ME) : ME := fun r => (a r).map fun d => match d with
  | .none => .bool true
  | _ => .bool false
theorem de_isN {j : Nat} {p : Pos} (ha : PE X a (TD ma)) : PE X (.Compare a [.Is] [.Constant .none j p] pos) (TD (mIsN ma)) := peW (pe_cmp (pc_isN ha) rfl) fun σ H Q ⟨O, r, d, E, hm, k⟩ => by
  obtain ⟨d', e1, e2⟩ := map_some hm
  refine ⟨O, r, d', E, e1, fun v H' x q => ?_⟩
  subst e2
  cases q with
  | non => exact k _ H' x (.bl _)
  | bl _ => exact k _ H' x (.bl _)
  | int _ => exact k _ H' x (.bl _)
  | str _ => exact k _ H' x (.bl _)
  | lst _ _ => exact k _ H' x (.bl _)
  | tup _ _ => exact k _ H' x (.bl _)
end
end Ly
set_option Elab.async false
set_option linter.all false
set_option maxRecDepth 100000
set_option maxHeartbeats 2000000
namespace Ly
open PySem PySem.Spec PyProof.Rows L2
theorem szl {n : Nat} (h : n ≤ 100000) : n ≤ sizeLine := Nat.le_trans h (by decide)
theorem szlt {n : Nat} (h : n < 100000) : n < sizeLine := Nat.lt_of_lt_of_le h (by decide)
theorem sz2 {n m : Nat} (h : n ≤ 100000) (h2 : m ≤ 100000) : n + m ≤ sizeLine := Nat.le_trans (Nat.add_le_add h h2) (by decide)
section
variable {O : List Addr} {r : List Sl} {σ : L2.St} {H H1 : Hp} {p : Addr} {ws : List V} {es : List PyData}
theorem En.out (E : En O r σ H) (x : Ext H H1) (hp : H1 p = none) : p ∉ O := fun z => E.dom p z (x.none_of hp)
theorem new_tup (E : En O r σ H) (x : Ext H H1) (hp : H1 p = none) (h : RpAll (hide O H1) ws es) : Rp (hide O (upd H1 p (.tup ws))) (.ref p) (.tuple es) :=
  .tup (hide_some.mpr ⟨E.out x hp, upd_same⟩) (dpa_ext (hide_ext (Ext.new hp)) h)
theorem new_lst (hp : H1 p = none) (h : RpAll (hide O H1) ws es) : RpAll (hide (p :: O) (upd H1 p (.lst ws))) ws es := by rw [hide_own hp]; exact h
theorem Wk.list {v : V} {ds : List PyData} (h : Wk O H v (.list ds)) : ∃ p vs, v = .ref p ∧ H p = some (.lst vs) ∧ RpAll (hide O H) vs ds := by
  rcases h with h | ⟨p, vs, es, e1, e2, e3, e4⟩
  · obtain ⟨a, vs, e1, e2, e3⟩ := dp_lst h
    exact ⟨a, vs, e1, hide_sub _ _ _ _ e2, e3⟩
  · cases e2
    exact ⟨p, vs, e1, e3, e4⟩
theorem Wk.tup {v : V} {ds : List PyData} (h : Wk O H v (.tuple ds)) : ∃ p vs, v = .ref p ∧ H p = some (.tup vs) ∧ RpAll (hide O H) vs ds := by
  rcases h with h | ⟨p, vs, es, e1, e2, e3, e4⟩
  · obtain ⟨a, vs, e1, e2, e3⟩ := dp_tup h
    exact ⟨a, vs, e1, hide_sub _ _ _ _ e2, e3⟩
  · cases e2
end
section
variable {X : Cx} {a b c : Expr} {es : List Expr} {ma mb mc : ME} {ml : ML} {pos : Pos}
/-! argument lists -/
def mNil : ML := fun _ => some []
def mCons (m : ME) (l : ML) : ML := fun r => (m r).bind fun d => (l r).map fun ds => d :: ds
def mStar (m : ME) (l : ML) : ML := fun r => ((m r).bind asSeq).bind fun xs => (l r).map fun ds => xs ++ ds
theorem da_nil : PA X [] (TL mNil) := paW pa_nil fun σ H Q ⟨O, r, ds, E, hm, k⟩ => by
  cases hm
  exact k _ H (Ext.refl H) .nil
theorem da_cons (ha : PE X a (TD ma)) (hr : PA X es (TL ml)) (hs : starEach (a :: es) X.env = (false, eval a X.env) :: starEach es X.env := by rfl) : PA X (a :: es) (TL (mCons ma ml)) := paW (pa_cons ha hr hs) fun σ H Q ⟨O, r, ds, E, hm, k⟩ => by
  obtain ⟨d, e1, hm⟩ := bind_some hm
  obtain ⟨es, e2, hm⟩ := map_some hm
  subst hm
  exact ⟨O, r, d, E, e1, fun v H1 x1 q1 => ⟨O, r, es, E.ext x1, e2, fun vs H2 x2 q2 => k _ H2 (x1.trans x2) (.cons (dp_ext (hide_ext x2) q1) q2)⟩⟩
theorem da_star {p : Pos} (ha : PE X a (TW ma)) (hr : PA X es (TL ml)) (hs : starEach (.Starred a p :: es) X.env = (true, eval a X.env) :: starEach es X.env := by rfl) : PA X (.Starred a p :: es) (TL (mStar ma ml)) := paW (StX.pa_star ha hr hs) fun σ H Q ⟨O, r, ds, E, hm, k⟩ => by
  obtain ⟨xs, e1, hm⟩ := bind_some hm
  obtain ⟨d, e0, e1⟩ := bind_some e1
  obtain ⟨es, e2, hm⟩ := map_some hm
  subst hm
  refine ⟨O, r, d, E, e0, fun v H1 x1 q1 => ?_⟩
  rcases asSeq_ok e1 with e | e
  · subst e
    obtain ⟨p, vs, rfl, h1, h2⟩ := q1.list
    exact ⟨p, vs, rfl, .inr (SqL.of h1), O, r, es, E.ext x1, e2, fun ws H2 x2 q2 => k _ H2 (x1.trans x2) (dpa_app (dpa_ext (hide_ext x2) h2) q2)⟩
  · subst e
    obtain ⟨p, vs, rfl, h1, h2⟩ := q1.tup
    exact ⟨p, vs, rfl, .inl (SqT.of h1), O, r, es, E.ext x1, e2, fun ws H2 x2 q2 => k _ H2 (x1.trans x2) (dpa_app (dpa_ext (hide_ext x2) h2) q2)⟩
/-! displays -/
def okSz (ds : List PyData) : Bool := decide (ds.length ≤ 100000)
def mTup (l : ML) : ME := fun r => (l r).bind fun ds => if okSz ds then some (.tuple ds) else none
def mLst (l : ML) : ML := fun r => (l r).bind fun ds => if okSz ds then some ds else none
theorem okSz_ok {ds : List PyData} (h : okSz ds = true) : ds.length ≤ 100000 := of_decide_eq_true h
theorem iteSome {α : Type} {c : Bool} {x y : α} (h : (if c = true then some x else none) = some y) : c = true ∧ x = y := by
  cases c with
  | true => exact ⟨rfl, Option.some.inj h⟩
  | false => cases h
theorem de_tup {k : Nat} (h : PA X es (TL ml)) : PE X (.Tuple es k pos) (TD (mTup ml)) := peW (pe_tup h) fun σ H Q ⟨O, r, d, E, hm, k⟩ => by
  obtain ⟨ds, e1, hm⟩ := bind_some hm
  obtain ⟨c, e⟩ := iteSome hm
  subst e
  exact ⟨O, r, ds, E, e1, fun vs H1 x1 q1 => ⟨by rw [dpa_len q1]; exact szl (okSz_ok c), fun p hp => k _ _ (x1.trans (Ext.new hp)) (new_tup E x1 hp q1)⟩⟩
theorem dn_lst (h : PA X es (TL ml)) : PE X (.List es pos) (TN (mLst ml)) := peW (pe_lst h) fun σ H Q ⟨O, r, d, E, hm, k⟩ => by
  obtain ⟨ds, e1, hm⟩ := bind_some hm
  obtain ⟨c, e⟩ := iteSome hm
  subst e
  exact ⟨O, r, ds, E, e1, fun vs H1 x1 q1 => ⟨by rw [dpa_len q1]; exact szl (okSz_ok c), fun p hp => k p vs _ (x1.none_of hp) (x1.trans (Ext.new hp)) upd_same (new_lst hp q1)⟩⟩
/-! subscripts, slices -/
def mIx (m i : ME) : ME := fun r => ((m r).bind asSeq).bind fun ds => (iM i r).bind fun j => atI ds j
theorem dpa_atI {H : Hp} {vs : List V} {ds : List PyData} {i : Int} {d : PyData} (h : RpAll H vs ds) (e : atI ds i = some d) : ∃ v, atI vs i = some v ∧ Rp H v d := by
  unfold atI at e ⊢
  rw [dpa_len h]
  cases q : ixN ds.length i with
  | none => rw [q] at e; cases e
  | some j =>
    rw [q] at e
    exact dpa_get h e
theorem de_ix (ha : PE X a (TW ma)) (hb : PE X b (TD mb)) (hs : PlainIx b := by exact fun _ _ => rfl) : PE X (.Subscript a b pos) (TD (mIx ma mb)) := peW (pe_ix (ix_list.or ix_tup) ha hb hs) fun σ H Q ⟨O, r, d, E, hm, k⟩ => by
  obtain ⟨ds, e1, hm⟩ := bind_some hm
  obtain ⟨d0, e0, e1⟩ := bind_some e1
  obtain ⟨j, e2, hm⟩ := bind_some hm
  refine ⟨O, r, d0, E, e0, fun v H1 x1 q1 => ⟨O, r, _, E.ext x1, iM_ok e2, fun w H2 x2 q2 => ?_⟩⟩
  rcases asSeq_ok e1 with e | e
  · subst e
    obtain ⟨p, vs, rfl, h1, h2⟩ := q1.list
    obtain ⟨u, a1, a2⟩ := dpa_atI h2 hm
    exact .inl ⟨p, vs, j, u, rfl, dp_int q2, SqL.of (x2 _ _ h1), a1, k u H2 (x1.trans x2) (dp_ext (hide_ext x2) a2)⟩
  · subst e
    obtain ⟨p, vs, rfl, h1, h2⟩ := q1.tup
    obtain ⟨u, a1, a2⟩ := dpa_atI h2 hm
    exact .inr ⟨p, vs, j, u, rfl, dp_int q2, SqT.of (x2 _ _ h1), a1, k u H2 (x1.trans x2) (dp_ext (hide_ext x2) a2)⟩
theorem cut_to (xs : List V) (j : Nat) : cutV xs none (some (j : Int)) = xs.take j := by
  unfold cutV
  rw [HT.sIx_none, HT.sIx_nat, List.drop_zero, Nat.sub_zero, ← List.take_take, List.take_length]
theorem sIx_to (n j : Nat) : HT.sIx n n (some (j : Int)) = min j n := HT.sIx_nat n n j
/-- t[:n] -/
def mTake (k : List PyData → PyData) (as : PyData → Option (List PyData)) (m n : ME) : ME := fun r => ((m r).bind as).bind fun ds => (iM n r).bind fun j => if 0 ≤ j then some (k (ds.take j.toNat)) else none
theorem de_takeT {p2 : Pos} (ha : PE X a (TD ma)) (hb : PE X b (TD mb)) : PE X (.Subscript a (.Slice none (some b) none p2) pos) (TD (mTake .tuple asTup ma mb)) := peW (pe_slice sl_tupA ha po_none (po_some hb)) fun σ H Q ⟨O, r, d, E, hm, k⟩ => by
  obtain ⟨ds, e1, hm⟩ := bind_some hm
  obtain ⟨d0, e0, e1⟩ := bind_some e1
  obtain ⟨j, e2, hm⟩ := bind_some hm
  split at hm
  · next hj =>
    cases hm
    have ed := asTup_ok e1
    subst ed
    refine ⟨O, r, _, E, e0, fun v H1 x1 q1 => ⟨O, r, _, E.ext x1, iM_ok e2, fun w H2 x2 q2 => ⟨j, dp_int q2, ?_⟩⟩⟩
    obtain ⟨p, vs, rfl, h1, h2⟩ := dp_tup q1
    have hj' : j = (j.toNat : Int) := by omega
    have hl := dpa_len h2
    refine ⟨p, vs, rfl, SqT.of (x2 _ _ (hide_sub _ _ _ _ h1)), fun hw => ?_, fun hw q hq => ?_⟩
    · have hw2 := hw.2
      rw [hj', sIx_to] at hw2
      have e3 : ds.take j.toNat = ds := List.take_of_length_le (by omega)
      rw [e3] at k
      exact k _ H2 (x1.trans x2) (dp_ext (hide_ext x2) q1)
    · rw [hj', cut_to]
      exact k _ _ ((x1.trans x2).trans (Ext.new hq)) (new_tup (E.ext x1) x2 hq (dpa_take _ (dpa_ext (hide_ext x2) h2)))
  · cases hm
def mTakeL (m n : ME) : ML := fun r => ((m r).bind asLst).bind fun ds => (iM n r).bind fun j => if 0 ≤ j then some (ds.take j.toNat) else none
theorem dn_takeL {p2 : Pos} (ha : PE X a (TD ma)) (hb : PE X b (TD mb)) : PE X (.Subscript a (.Slice none (some b) none p2) pos) (TN (mTakeL ma mb)) := peW (pe_slice sl_list ha po_none (po_some hb)) fun σ H Q ⟨O, r, d, E, hm, k⟩ => by
  obtain ⟨ds, e1, hm⟩ := bind_some hm
  obtain ⟨d0, e0, e1⟩ := bind_some e1
  obtain ⟨j, e2, hm⟩ := bind_some hm
  split at hm
  · next hj =>
    cases hm
    have ed := asLst_ok e1
    subst ed
    refine ⟨O, r, _, E, e0, fun v H1 x1 q1 => ⟨O, r, _, E.ext x1, iM_ok e2, fun w H2 x2 q2 => ⟨j, dp_int q2, ?_⟩⟩⟩
    obtain ⟨p, vs, rfl, h1, h2⟩ := dp_lst q1
    have hj' : j = (j.toNat : Int) := by omega
    refine ⟨p, vs, rfl, SqL.of (x2 _ _ (hide_sub _ _ _ _ h1)), fun q hq => ?_⟩
    rw [hj', cut_to]
    exact k q _ _ ((x1.trans x2).none_of hq) ((x1.trans x2).trans (Ext.new hq)) upd_same (new_lst hq (dpa_take _ (dpa_ext (hide_ext x2) h2)))
  · cases hm
/-! built-ins -/
theorem no_star {e : Expr} {p : Pos} (h : starEach [e] X.env = [(false, eval e X.env)]) : starEach [e] X.env = (false, eval e X.env) :: starEach [] X.env := by rw [h]; rfl
def mLen (m : ME) : ME := fun r => ((m r).bind asSeq).map fun ds => .int ds.length
theorem de_len {p : Pos} (hg : Gl X "len") (hm : X.mg "len" = none) (ha : PE X a (TW ma)) (na : starEach [a] X.env = (false, eval a X.env) :: starEach [] X.env := by rfl) : PE X (.Call (.Name "len" p) [a] [] pos) (TD (mLen ma)) :=
  peW (pe_callB call_len_seq hg hm PySem.boot_len (pa_cons ha pa_nil na) (he := na)) fun σ H Q ⟨O, r, d, E, hm, k⟩ => by
    obtain ⟨ds, e1, hm⟩ := map_some hm
    obtain ⟨d0, e0, e1⟩ := bind_some e1
    subst hm
    refine ⟨O, r, d0, E, e0, fun v H1 x1 q1 => ?_⟩
    rcases asSeq_ok e1 with e | e
    · subst e
      obtain ⟨p, vs, rfl, h1, h2⟩ := q1.list
      exact ⟨p, vs, rfl, .inl (SqL.of h1), by rw [dpa_len h2]; exact k _ H1 x1 (.int _)⟩
    · subst e
      obtain ⟨p, vs, rfl, h1, h2⟩ := q1.tup
      exact ⟨p, vs, rfl, .inr (SqT.of h1), by rw [dpa_len h2]; exact k _ H1 x1 (.int _)⟩
def mInt (m : ME) : ME := fun r => (iM m r).map PyData.int
theorem de_toint {p : Pos} (hg : Gl X "int") (hm : X.mg "int" = none) (ha : PE X a (TD ma)) (na : starEach [a] X.env = (false, eval a X.env) :: starEach [] X.env := by rfl) : PE X (.Call (.Name "int" p) [a] [] pos) (TD (mInt ma)) :=
  peW (pe_callTy call_int1 hg hm (by decide +kernel) (pa_cons ha pa_nil na) (he := na)) fun σ H Q ⟨O, r, d, E, hm, k⟩ => by
    obtain ⟨i, e1, hm⟩ := map_some hm
    subst hm
    exact ⟨O, r, _, E, iM_ok e1, fun v H1 x1 q1 => .inl ⟨i, by rw [dp_int q1], k _ H1 x1 (.int i)⟩⟩
def mTupOf (m : ME) : ME := fun r => ((m r).bind asSeq).map PyData.tuple
theorem de_tuple {p : Pos} (hg : Gl X "tuple") (hm : X.mg "tuple" = none) (ha : PE X a (TW ma)) (na : starEach [a] X.env = (false, eval a X.env) :: starEach [] X.env := by rfl) : PE X (.Call (.Name "tuple" p) [a] [] pos) (TD (mTupOf ma)) :=
  peW (pe_tupleOf hg hm ha na) fun σ H Q ⟨O, r, d, E, hm, k⟩ => by
    obtain ⟨ds, e1, hm⟩ := map_some hm
    obtain ⟨d0, e0, e1⟩ := bind_some e1
    subst hm
    refine ⟨O, r, d0, E, e0, fun v H1 x1 q1 => ?_⟩
    rcases asSeq_ok e1 with e | e
    · subst e
      obtain ⟨p, vs, rfl, h1, h2⟩ := q1.list
      exact .inl ⟨p, vs, rfl, SqL.of h1, fun q hq => k _ _ (x1.trans (Ext.new hq)) (new_tup E x1 hq h2)⟩
    · subst e
      rcases q1 with q1 | ⟨_, _, _, _, z, _⟩
      · obtain ⟨p, vs, rfl, h1, h2⟩ := dp_tup q1
        exact .inr ⟨p, vs, rfl, SqT.of (hide_sub _ _ _ _ h1), k _ H1 x1 q1⟩
      · cases z
def mLstOf (m : ME) : ML := fun r => (m r).bind asSeq
theorem dn_list {p : Pos} (hg : Gl X "list") (hm : X.mg "list" = none) (ha : PE X a (TW ma)) (na : starEach [a] X.env = (false, eval a X.env) :: starEach [] X.env := by rfl) : PE X (.Call (.Name "list" p) [a] [] pos) (TN (mLstOf ma)) :=
  peW (pe_callTy call_list_of hg hm (by decide +kernel) (pa_cons ha pa_nil na) (he := na)) fun σ H Q ⟨O, r, ds, E, hm, k⟩ => by
    obtain ⟨d0, e0, e1⟩ := bind_some hm
    refine ⟨O, r, d0, E, e0, fun v H1 x1 q1 => ?_⟩
    rcases asSeq_ok e1 with e | e
    · subst e
      obtain ⟨p, vs, rfl, h1, h2⟩ := q1.list
      exact ⟨p, vs, rfl, .inl (SqL.of h1), fun q hq => k q vs _ (x1.none_of hq) (x1.trans (Ext.new hq)) upd_same (new_lst hq h2)⟩
    · subst e
      obtain ⟨p, vs, rfl, h1, h2⟩ := q1.tup
      exact ⟨p, vs, rfl, .inr (SqT.of h1), fun q hq => k q vs _ (x1.none_of hq) (x1.trans (Ext.new hq)) upd_same (new_lst hq h2)⟩
def bools : List PyData → Option (List Bool)
  | [] => some []
  | .bool b :: ds => (bools ds).map fun bs => b :: bs
  | _ :: _ => none
theorem bools_ok : ∀ {ds : List PyData} {bs : List Bool}, bools ds = some bs → ds = bs.map PyData.bool
  | [], _, h => by cases h; rfl
  | .bool b :: ds, _, h => by
    obtain ⟨cs, e1, e2⟩ := map_some (show (bools ds).map (fun bs => b :: bs) = some _ from h)
    subst e2
    rw [bools_ok e1]; rfl
  | .none :: _, _, h => by cases h
  | .int _ :: _, _, h => by cases h
  | .str _ :: _, _, h => by cases h
  | .list _ :: _, _, h => by cases h
  | .tuple _ :: _, _, h => by cases h
  | .dict _ :: _, _, h => by cases h
def mBools (f : List Bool → Bool) (m : ME) : ME := fun r => (((m r).bind asLst).bind bools).map fun bs => .bool (f bs)
theorem de_bools {x : Str} {id : String} {f : List Bool → Bool} {p : Pos} (hc : CallR X (.builtin id) fun vs H Q => ∃ (a : Addr) (bs : List Bool), vs = [V.ref a] ∧ SqL X.K H a (bs.map V.bl) ∧ Q (.bl (f bs)) H) (hv : bootBuiltins x = some (.builtin id)) (hg : Gl X x) (hm : X.mg x = none)
    (ha : PE X a (TD ma)) (na : starEach [a] X.env = (false, eval a X.env) :: starEach [] X.env) (hn : x ≠ "__name__") (hdb : (x == ("__debug__" : Str)) = false) : PE X (.Call (.Name x p) [a] [] pos) (TD (mBools f ma)) :=
  peW (pe_callB hc hg hm hv (pa_cons ha pa_nil na) (he := na) hn hdb) fun σ H Q ⟨O, r, d, E, hm, k⟩ => by
    obtain ⟨bs, e2, hm⟩ := map_some hm
    obtain ⟨ds, e1, e2⟩ := bind_some e2
    obtain ⟨d0, e0, e1⟩ := bind_some e1
    subst hm
    have ed := asLst_ok e1
    subst ed
    refine ⟨O, r, _, E, e0, fun v H1 x1 q1 => ?_⟩
    obtain ⟨p, vs, rfl, h1, h2⟩ := dp_lst q1
    rw [bools_ok e2] at h2
    have e3 := dpa_bls h2
    subst e3
    exact ⟨p, bs, rfl, SqL.of (hide_sub _ _ _ _ h1), k _ H1 x1 (.bl _)⟩
theorem de_all {p : Pos} (hg : Gl X "all") (hm : X.mg "all" = none) (hc : X.calm = true) (ha : PE X a (TD ma)) (na : starEach [a] X.env = (false, eval a X.env) :: starEach [] X.env := by rfl) : PE X (.Call (.Name "all" p) [a] [] pos) (TD (mBools (fun bs => bs.all id) ma)) :=
  de_bools (cr_all hc) (by decide +kernel) hg hm ha na (by decide) (by decide)
theorem de_any {p : Pos} (hg : Gl X "any") (hm : X.mg "any" = none) (hc : X.calm = true) (ha : PE X a (TD ma)) (na : starEach [a] X.env = (false, eval a X.env) :: starEach [] X.env := by rfl) : PE X (.Call (.Name "any" p) [a] [] pos) (TD (mBools (fun bs => bs.any id) ma)) :=
  de_bools (cr_any hc) (by decide +kernel) hg hm ha na (by decide) (by decide)
/-! isinstance -/
def tyOf : PyData → String
  | .none => "NoneType"
  | .bool _ => "bool"
  | .int _ => "int"
  | .str _ => "str"
  | .list _ => "list"
  | .tuple _ => "tuple"
  | .dict _ => "dict"
theorem tyOf_ok {K : PySem.W.Frag} {H H' : Hp} {v : V} {d : PyData} (e : Ext H H') (h : Rp H v d) : TyX K H' v (.type (tyOf d)) := by
  cases h with
  | non => exact .base .non
  | bl b => exact .base (.bl b)
  | int i => exact .base (.int i)
  | str x => exact .base (.str x)
  | lst h _ => exact .base (.lst (e _ _ h))
  | tup h _ => exact .base (.tup (e _ _ h))
def mIsi (T : String) (m : ME) : ME := fun r => (m r).bind fun d => (kitB (tyOf d) T).map PyData.bool
theorem de_isi {x : Str} {T : String} {p p2 : Pos} (hg : Gl X "isinstance") (hm : X.mg "isinstance" = none) (hg2 : Gl X x) (hm2 : X.mg x = none) (hb2 : bootBuiltins x = some (.type T)) (ha : PE X a (TD ma))
    (na : starEach [a, .Name x p2] X.env = (false, eval a X.env) :: starEach [.Name x p2] X.env := by rfl) (nb : starEach [.Name x p2] X.env = (false, eval (.Name x p2) X.env) :: starEach [] X.env := by rfl)
    (hpl : (backTo pos (starEach [.Name x p2] X.env)).any (·.1) = false := by rfl) (hn2 : x ≠ "__name__" := by decide) (hdb2 : (x == ("__debug__" : Str)) = false := by decide) :
    PE X (.Call (.Name "isinstance" p) [a, .Name x p2] [] pos) (TD (mIsi T ma)) :=
  peW (pe_callB call_isi hg hm (by decide +kernel) (pa_cons ha (pa_cons (pe_bltn (v := .ty T) hg2 hm2 hb2 rfl hn2 hdb2) pa_nil nb) na) (he := na) (hpl := hpl)) fun σ H Q ⟨O, r, d, E, hm, k⟩ => by
    obtain ⟨d0, e0, hm⟩ := bind_some hm
    obtain ⟨bb, e1, hm⟩ := map_some hm
    subst hm
    exact ⟨O, r, d0, E, e0, fun v H1 x1 q1 => ⟨v, .ty T, _, _, bb, rfl, .ty T, tyOf_ok (hide_sub _ _) q1, kit_ty e1, k _ H1 x1 (.bl _)⟩⟩
end
end Ly
set_option Elab.async false
set_option linter.all false
set_option maxRecDepth 100000
set_option maxHeartbeats 2000000
namespace Ly
open PySem PySem.Spec PyProof.Rows L2
def allInt : List PyData → Option (List Int)
  | [] => some []
  | .int b :: ds => (allInt ds).map fun bs => b :: bs
  | _ :: _ => none
theorem ints_ok : ∀ {ds : List PyData} {bs : List Int}, allInt ds = some bs → ds = bs.map PyData.int
  | [], _, h => by cases h; rfl
  | .int b :: ds, _, h => by
    obtain ⟨cs, e1, e2⟩ := map_some (show (allInt ds).map (fun bs => b :: bs) = some _ from h)
    subst e2
    rw [ints_ok e1]; rfl
  | .none :: _, _, h => by cases h
  | .bool _ :: _, _, h => by cases h
  | .str _ :: _, _, h => by cases h
  | .list _ :: _, _, h => by cases h
  | .tuple _ :: _, _, h => by cases h
  | .dict _ :: _, _, h => by cases h
theorem ints_map : ∀ (ns : List Int), allInt (ns.map PyData.int) = some ns
  | [] => rfl
  | n :: ns => by
    show (allInt (ns.map PyData.int)).map (fun bs => n :: bs) = some (n :: ns)
    rw [ints_map ns]; rfl
theorem inV_ints (i : Int) : ∀ ns : List Int, inV (.int i) (ns.map V.int) = ns.any (fun n => n == i)
  | [] => rfl
  | n :: ns => by
    show (eqV (.int n) (.int i) || inV (.int i) (ns.map V.int)) = _
    rw [inV_ints i ns]; rfl
theorem flat_ints : ∀ ns : List Int, (ns.map V.int).all flatV = true
  | [] => rfl
  | n :: ns => by
    show (flatV (.int n) && (ns.map V.int).all flatV) = true
    rw [flat_ints ns]; rfl
section
variable {X : Cx} {a b c : Expr} {es : List Expr} {ma mb mc : ME} {ml : ML} {pos : Pos}
/-! in, not in -/
def mInB (neg : Bool) (m s : ME) : MB := fun r => (iM m r).bind fun i => (((s r).bind asSeq).bind allInt).map fun ns => if neg then !(ns.any fun n => n == i) else ns.any fun n => n == i
theorem in_core {neg : Bool} {K : PySem.W.Frag} {σ : L2.St} {H : Hp} {O : List Addr} {r : List Sl} {bb : Bool} {Q : VK} (E : En O r σ H) (hm : mInB neg ma mb r = some bb) (k : ∀ H', Ext H H' → Q (.bl bb) H') :
    tOp (rIn K neg) (TD ma) (TD mb) σ H Q := by
  obtain ⟨i, e1, hm⟩ := bind_some hm
  obtain ⟨ns, e3, hm⟩ := map_some hm
  obtain ⟨ds, e2, e3⟩ := bind_some e3
  obtain ⟨d0, e0, e2⟩ := bind_some e2
  refine ⟨O, r, _, E, iM_ok e1, fun v H1 x1 q1 => ⟨O, r, d0, E.ext x1, e0, fun w H2 x2 q2 => ?_⟩⟩
  have ed := ints_ok e3
  subst ed
  have fin : ∀ p, (SqL K H2 p (ns.map V.int) ∨ SqT K H2 p (ns.map V.int)) → rIn K neg v (.ref p) H2 Q := fun p hp => by
    rw [dp_int q1]
    refine ⟨p, _, rfl, hp, rfl, flat_ints ns, ?_⟩
    have e5 : (if neg = true then !inV (.int i) (ns.map V.int) else inV (.int i) (ns.map V.int)) = bb := by rw [inV_ints, hm]
    rw [e5]
    exact k H2 (x1.trans x2)
  rcases asSeq_ok e2 with e | e
  · subst e
    obtain ⟨p, vs, rfl, h1, h2⟩ := dp_lst q2
    rw [dpa_ints h2] at h1
    exact fin p (.inl (SqL.of (hide_sub _ _ _ _ h1)))
  · subst e
    obtain ⟨p, vs, rfl, h1, h2⟩ := dp_tup q2
    rw [dpa_ints h2] at h1
    exact fin p (.inr (SqT.of (hide_sub _ _ _ _ h1)))
theorem dt_in (ha : PE X a (TD ma)) (hb : PE X b (TD mb)) (hm : behindInMarks .In b = false := by rfl) : PT X (.Compare a [.In] [b] pos) (TB (mInB false ma mb)) := ptW (pt_cmpR op_in_seq ha hb hm) fun σ H Q ⟨O, r, d, E, hm, k⟩ =>
  in_core (Q := fun x H' => ∃ k, x = .bl k ∧ Q k H') E hm fun H' x => ⟨_, rfl, k H' x⟩
theorem dt_notin (ha : PE X a (TD ma)) (hb : PE X b (TD mb)) (hm : behindInMarks .NotIn b = false := by rfl) : PT X (.Compare a [.NotIn] [b] pos) (TB (mInB true ma mb)) := ptW (pt_cmpR op_notIn_seq ha hb hm) fun σ H Q ⟨O, r, d, E, hm, k⟩ =>
  in_core (Q := fun x H' => ∃ k, x = .bl k ∧ Q k H') E hm fun H' x => ⟨_, rfl, k H' x⟩
/-! == and != of data -/
theorem Wk.lib {K : PySem.W.Frag} {O : List Addr} {H H' : Hp} {v : V} {d : PyData} (x : Ext H H') (h : Wk O H v d) : Dp K H' v d := by
  rcases h with h | ⟨p, vs, ds, rfl, rfl, h1, h2⟩
  · exact dp_lib ((hide_sub _ _).trans x) h
  · exact .lst (SqL.of (x _ _ h1)) (dpa_lib ((hide_sub _ _).trans x) h2)
def mEqB (neg : Bool) (m s : ME) : MB := fun r => (m r).bind fun d => (s r).bind fun e => if (SeqAt.shaped d && SeqAt.shaped e) = true then some (if neg then !PyData.eqv d e else PyData.eqv d e) else none
theorem eq_core {neg : Bool} {σ : L2.St} {H : Hp} {O : List Addr} {r : List Sl} {bb : Bool} {R : V → V → Hp → Prop} (E : En O r σ H) (hm : mEqB neg ma mb r = some bb)
    (k : ∀ H' x y d e, Ext H H' → Dp X.K H' x d → Dp X.K H' y e → SeqAt.shaped d = true → SeqAt.shaped e = true → (if neg then !PyData.eqv d e else PyData.eqv d e) = bb → R x y H') :
    TW ma σ H fun x H1 => TW mb σ H1 fun y H2 => R x y H2 := by
  obtain ⟨d, e1, hm⟩ := bind_some hm
  obtain ⟨e, e2, hm⟩ := bind_some hm
  obtain ⟨c, e3⟩ := iteSome hm
  obtain ⟨c1, c2⟩ := Bool.and_eq_true_iff.mp c
  exact ⟨O, r, d, E, e1, fun v H1 x1 q1 => ⟨O, r, e, E.ext x1, e2, fun w H2 x2 q2 => k H2 v w d e (x1.trans x2) (q1.lib x2) (q2.lib (Ext.refl _)) c1 c2 e3⟩⟩
theorem dt_eqD (hu : X.A.units + 64 < cLine) (ha : PE X a (TW ma)) (hb : PE X b (TW mb)) : PT X (.Compare a [.Eq] [b] pos) (TB (mEqB false ma mb)) := ptW (pt_cmpR (op_eqD hu) ha hb (nomark _)) fun σ H Q ⟨O, r, bb, E, hm, k⟩ =>
  eq_core (X := X) (R := fun x y H2 => rEqD X.K x y H2 fun x H' => ∃ k, x = .bl k ∧ Q k H') E hm fun H' x y d e z q1 q2 c1 c2 e3 => ⟨d, e, q1, q2, c1, c2, _, rfl, by rw [show PyData.eqv d e = bb from e3]; exact k H' z⟩
theorem dt_neD (hu : X.A.units + 64 < cLine) (ha : PE X a (TW ma)) (hb : PE X b (TW mb)) : PT X (.Compare a [.NotEq] [b] pos) (TB (mEqB true ma mb)) := ptW (pt_cmpR (op_neD hu) ha hb (nomark _)) fun σ H Q ⟨O, r, bb, E, hm, k⟩ =>
  eq_core (X := X) (R := fun x y H2 => rNeD X.K x y H2 fun x H' => ∃ k, x = .bl k ∧ Q k H') E hm fun H' x y d e z q1 q2 c1 c2 e3 => ⟨d, e, q1, q2, c1, c2, _, rfl, by rw [show (!PyData.eqv d e) = bb from e3]; exact k H' z⟩
theorem de_eqD (hu : X.A.units + 64 < cLine) (ha : PE X a (TW ma)) (hb : PE X b (TW mb)) : PE X (.Compare a [.Eq] [b] pos) (TD (bE (mEqB false ma mb))) := peW (pe_cmpR (op_eqD hu) ha hb (nomark _)) fun σ H Q ⟨O, r, d0, E, hm, k⟩ => by
  obtain ⟨bb, e0, hm⟩ := map_some hm
  subst hm
  exact eq_core (X := X) (R := fun x y H2 => rEqD X.K x y H2 Q) E e0 fun H' x y d e z q1 q2 c1 c2 e3 => ⟨d, e, q1, q2, c1, c2, by rw [show PyData.eqv d e = bb from e3]; exact k _ H' z (.bl _)⟩
/-! sequences joined -/
def mCatL (m s : ME) : ML := fun r => ((m r).bind asLst).bind fun ds => ((s r).bind asLst).bind fun es => if okSz ds && okSz es then some (ds ++ es) else none
theorem dn_cat (ha : PE X a (TD ma)) (hb : PE X b (TD mb)) : PE X (.BinOp a .Add b pos) (TN (mCatL ma mb)) := peW (pe_op op_cat ha hb) fun σ H Q ⟨O, r, ds, E, hm, k⟩ => by
  obtain ⟨d, e1, hm⟩ := bind_some hm
  obtain ⟨d0, e0, e1⟩ := bind_some e1
  obtain ⟨e, e2, hm⟩ := bind_some hm
  obtain ⟨d2, e3, e2⟩ := bind_some e2
  obtain ⟨c, e4⟩ := iteSome hm
  obtain ⟨c1, c2⟩ := Bool.and_eq_true_iff.mp c
  have f1 := asLst_ok e1
  have f2 := asLst_ok e2
  subst f1 f2 e4
  refine ⟨O, r, _, E, e0, fun v H1 x1 q1 => ⟨O, r, _, E.ext x1, e3, fun w H2 x2 q2 => ?_⟩⟩
  obtain ⟨p, vs, rfl, h1, h2⟩ := dp_lst q1
  obtain ⟨q, ws, rfl, h3, h4⟩ := dp_lst q2
  exact ⟨p, q, vs, ws, rfl, rfl, x2 _ _ (hide_sub _ _ _ _ h1), hide_sub _ _ _ _ h3, by rw [dpa_len h2, dpa_len h4]; exact sz2 (okSz_ok c1) (okSz_ok c2),
    fun n hn => k n _ _ ((x1.trans x2).none_of hn) ((x1.trans x2).trans (Ext.new hn)) upd_same (new_lst hn (dpa_app (dpa_ext (hide_ext x2) h2) h4))⟩
def mCatT (m s : ME) : ME := fun r => ((m r).bind asTup).bind fun ds => ((s r).bind asTup).bind fun es => if okSz ds && okSz es then some (.tuple (ds ++ es)) else none
theorem de_catT (ha : PE X a (TD ma)) (hb : PE X b (TD mb)) : PE X (.BinOp a .Add b pos) (TD (mCatT ma mb)) := peW (pe_op op_catA ha hb) fun σ H Q ⟨O, r, ds, E, hm, k⟩ => by
  obtain ⟨d, e1, hm⟩ := bind_some hm
  obtain ⟨d0, e0, e1⟩ := bind_some e1
  obtain ⟨e, e2, hm⟩ := bind_some hm
  obtain ⟨d2, e3, e2⟩ := bind_some e2
  obtain ⟨c, e4⟩ := iteSome hm
  obtain ⟨c1, c2⟩ := Bool.and_eq_true_iff.mp c
  have f1 := asTup_ok e1
  have f2 := asTup_ok e2
  subst f1 f2 e4
  refine ⟨O, r, _, E, e0, fun v H1 x1 q1 => ⟨O, r, _, E.ext x1, e3, fun w H2 x2 q2 => ?_⟩⟩
  obtain ⟨p, vs, rfl, h1, h2⟩ := dp_tup q1
  obtain ⟨q, ws, rfl, h3, h4⟩ := dp_tup q2
  have h2' := dpa_ext (hide_ext (O := O) x2) h2
  refine ⟨p, q, vs, ws, rfl, rfl, SqT.of (x2 _ _ (hide_sub _ _ _ _ h1)), SqT.of (hide_sub _ _ _ _ h3), by rw [dpa_len h2, dpa_len h4]; exact sz2 (okSz_ok c1) (okSz_ok c2), fun z => ?_, fun _ z => ?_, fun _ _ n hn => k _ _ ((x1.trans x2).trans (Ext.new hn)) (new_tup (E.ext x1) x2 hn (dpa_app h2' h4))⟩
  · subst z
    cases h2'
    exact k _ H2 (x1.trans x2) q2
  · subst z
    cases h4
    rw [List.append_nil] at k
    exact k _ H2 (x1.trans x2) (dp_ext (hide_ext x2) q1)
/-! a call of one of the program's defs -/
/-- what a def promises, by the data: its mirror -/
def spD (f : List PyData → Option PyData) : Sp := fun vs H Q _ => ∃ O ds d, (∀ p ∈ O, H p ≠ none) ∧ RpAll (hide O H) vs ds ∧ f ds = some d ∧ ∀ v H', Ext H H' → Rp (hide O H') v d → Q v H'
def mCall (f : List PyData → Option PyData) (l : ML) : ME := fun r => (l r).bind f
/-- a def of the text, with its mirror; dd: its defaults -/
structure Fn (P : Program) (w : World) (K : PySem.W.Frag) (mg : PySem.Str → Option Value) (base : Heap) (k : Nat) (x : PySem.Str) (ps : List PySem.Str) (dvs : List V) (f : List PyData → Option PyData) : Prop where
  ex : ∃ (ad : Addr) (fd : FuncData) (ds : List Value), FnOk P w K mg base CX0 k ad fd ps (spD f) ∧ mg x = some (.ref ad) ∧ PySem.W.keepIn K (.ref ad) = true ∧ Binds K fd ps ds ∧ Vals dvs ds
theorem de_callX {k k' : Nat} {x : PySem.Str} {ps : List PySem.Str} {dvs : List V} {dd : List PyData} {f : List PyData → Option PyData} {p : Pos} (F : Fn X.prog X.w X.K X.mg X.base k x ps dvs f) (hdd : ∀ H, RpAll H dvs dd) (hr : Room k' X.A) (hk : k ≤ k') (hg : Gl X x) (ha : PA X (a :: es) (TL ml))
    (hdb : (x == ("__debug__" : Str)) = false := by decide) (he : starEach (a :: es) X.env = (false, eval a X.env) :: starEach es X.env := by rfl) (hpl : (backTo pos (starEach es X.env)).any (·.1) = false := by rfl) :
    PE X (.Call (.Name x p) (a :: es) [] pos) (TD (mCall (fun ds => f (ds ++ dd)) ml)) := by
  obtain ⟨ad, fd, ds, h1, h2, h3, h4, h5⟩ := F.ex
  refine peW (pe_call h1 (hr.mono hk) hg h2 h3 h4 h5 pass0 ha hdb he hpl) fun σ H Q ⟨O, r, d, E, hm, k⟩ => ?_
  obtain ⟨ds, e1, hm⟩ := bind_some hm
  exact ⟨O, r, ds, E, e1, fun vs H1 x1 q1 => ⟨O, ds ++ dd, d, (E.ext x1).dom, dpa_app q1 (hdd _), hm, fun v H2 x2 q2 => k v H2 (x1.trans x2) q2⟩⟩
theorem de_call {k k' : Nat} {x : PySem.Str} {ps : List PySem.Str} {f : List PyData → Option PyData} {p : Pos} (F : Fn X.prog X.w X.K X.mg X.base k x ps [] f) (hr : Room k' X.A) (hk : k ≤ k') (hg : Gl X x) (ha : PA X (a :: es) (TL ml))
    (hdb : (x == ("__debug__" : Str)) = false := by decide) (he : starEach (a :: es) X.env = (false, eval a X.env) :: starEach es X.env := by rfl) (hpl : (backTo pos (starEach es X.env)).any (·.1) = false := by rfl) :
    PE X (.Call (.Name x p) (a :: es) [] pos) (TD (mCall f ml)) := by
  obtain ⟨ad, fd, ds, h1, h2, h3, h4, h5⟩ := F.ex
  refine peW (pe_call h1 (hr.mono hk) hg h2 h3 h4 h5 pass0 ha hdb he hpl) fun σ H Q ⟨O, r, d, E, hm, k⟩ => ?_
  obtain ⟨ds, e1, hm⟩ := bind_some hm
  exact ⟨O, r, ds, E, e1, fun vs H1 x1 q1 => ⟨O, ds, d, (E.ext x1).dom, by rw [List.append_nil]; exact q1, hm, fun v H2 x2 q2 => k v H2 (x1.trans x2) q2⟩⟩
/-! ranges -/
def rgD (i j : Int) : List PyData := (List.range (j - i).toNat).map fun n => PyData.int (i + (n : Nat))
def okRg (i j : Int) : Bool := decide (-100000 ≤ i ∧ i ≤ 100000 ∧ -100000 ≤ j ∧ j ≤ 100000)
theorem okRg_ok {i j : Int} (h : okRg i j = true) : RgOk i j := by
  have q := of_decide_eq_true h
  exact ⟨by omega, by omega, by omega, by omega, by omega⟩
theorem rg_rp (i j : Int) (H : Hp) : RpAll H (rgV i j) (rgD i j) := by
  have e1 : rgV i j = ((List.range (j - i).toNat).map fun n => i + (n : Nat)).map V.int := by unfold rgV; rw [List.map_map]; rfl
  have e2 : rgD i j = ((List.range (j - i).toNat).map fun n => i + (n : Nat)).map PyData.int := by unfold rgD; rw [List.map_map]; rfl
  rw [e1, e2]
  exact dpa_of_ints _
def mRg1 (m : ME) : ML := fun r => (iM m r).bind fun j => if okRg 0 j then some (rgD 0 j) else none
def mRg2 (m s : ME) : ML := fun r => (iM m r).bind fun i => (iM s r).bind fun j => if okRg i j then some (rgD i j) else none
theorem dn_listRg {p p2 q : Pos} (hc : X.calm = true) (hg : Gl X "list") (hm : X.mg "list" = none) (hg2 : Gl X "range") (hm2 : X.mg "range" = none) (ha : PE X a (TD ma))
    (n1 : starEach [a] X.env = (false, eval a X.env) :: starEach [] X.env := by rfl) (n2 : starEach [.Call (.Name "range" p2) [a] [] q] X.env = (false, eval (.Call (.Name "range" p2) [a] [] q) X.env) :: starEach [] X.env := by rfl) :
    PE X (.Call (.Name "list" p) [.Call (.Name "range" p2) [a] [] q] [] pos) (TN (mRg1 ma)) := peW (pe_listRg hc hg hm (prg_1 hg2 hm2 ha n1) n2) fun σ H Q ⟨O, r, ds, E, hm, k⟩ => by
  obtain ⟨j, e1, hm⟩ := bind_some hm
  obtain ⟨c, e2⟩ := iteSome hm
  subst e2
  exact ⟨O, r, _, E, iM_ok e1, fun v H1 x1 q1 => ⟨j, dp_int q1, okRg_ok c, fun n hn => k n _ _ (x1.none_of hn) (x1.trans (Ext.new hn)) upd_same (new_lst hn (rg_rp 0 j _))⟩⟩
theorem de_tupRg {p p2 q : Pos} (hc : X.calm = true) (hg : Gl X "tuple") (hm : X.mg "tuple" = none) (hg2 : Gl X "range") (hm2 : X.mg "range" = none) (ha : PE X a (TD ma)) (hb : PE X b (TD mb))
    (n1 : starEach [a, b] X.env = (false, eval a X.env) :: starEach [b] X.env := by rfl) (n3 : starEach [b] X.env = (false, eval b X.env) :: starEach [] X.env := by rfl) (n4 : (backTo q (starEach [b] X.env)).any (·.1) = false := by rfl)
    (n2 : starEach [.Call (.Name "range" p2) [a, b] [] q] X.env = (false, eval (.Call (.Name "range" p2) [a, b] [] q) X.env) :: starEach [] X.env := by rfl) :
    PE X (.Call (.Name "tuple" p) [.Call (.Name "range" p2) [a, b] [] q] [] pos) (TD fun r => (mRg2 ma mb r).map PyData.tuple) := peW (pe_tupRg hc hg hm (prg_2 hg2 hm2 ha hb n1 n3 n4) n2) fun σ H Q ⟨O, r, d, E, hm, k⟩ => by
  obtain ⟨ds, e0, hm⟩ := map_some hm
  obtain ⟨i, e1, e0⟩ := bind_some e0
  obtain ⟨j, e2, e0⟩ := bind_some e0
  obtain ⟨c, e3⟩ := iteSome e0
  subst e3 hm
  exact ⟨O, r, _, E, iM_ok e1, fun v H1 x1 q1 => ⟨O, r, _, E.ext x1, iM_ok e2, fun w H2 x2 q2 => ⟨i, j, dp_int q1, dp_int q2, okRg_ok c, fun n hn => k _ _ ((x1.trans x2).trans (Ext.new hn)) (new_tup (E.ext x1) x2 hn (rg_rp i j _))⟩⟩⟩
end
end Ly
set_option Elab.async false
set_option linter.all false
set_option maxRecDepth 100000
set_option maxHeartbeats 4000000
namespace Ly
open PySem PySem.Spec PyProof.Rows L2
/-! lists and tuples alike, by a sign: true a list, false a tuple -/
def sqO (b : Bool) (xs : List V) : HO := match b with
  | true => .lst xs
  | false => .tup xs
def itK (b : Bool) (h : Heap) (it a : Addr) (i : Nat) : Prop := match b with
  | true => h.IsListIter it a i
  | false => h.IsTupleIter it a i
def isK (b : Bool) (h : Heap) (a : Addr) (items : Array Value) : Prop := match b with
  | true => h.IsList a items
  | false => h.IsTuple a items
def itO (b : Bool) (a : Addr) : Obj := match b with
  | true => { cls := .type "list_iterator", data := .fields #[.ref a, .int 0 0] }
  | false => { cls := .type "tuple_iterator", data := .fields #[.ref a, .int 0 0] }
theorem sqO_inj {b : Bool} {xs ys : List V} (h : sqO b xs = sqO b ys) : xs = ys := by
  cases b with
  | true => exact HO.lst.inj h
  | false => exact HO.tup.inj h
theorem itK_new {b : Bool} {h : Heap} {it a : Addr} (e : h.get? it = some (itO b a)) : itK b h it a 0 := by
  cases b with
  | true => exact ⟨_, e, rfl, rfl⟩
  | false => exact ⟨_, e, rfl, rfl⟩
theorem itK_at {b : Bool} {h h' : Heap} {it a : Addr} {i : Nat} (x : itK b h it a i) (k : ∀ o, h.get? it = some o → h'.get? it = some o) : itK b h' it a i := by
  cases b with
  | true => obtain ⟨o, e, r⟩ := x; exact ⟨o, k o e, r⟩
  | false => obtain ⟨o, e, r⟩ := x; exact ⟨o, k o e, r⟩
theorem itK_ob {b : Bool} {h : Heap} {it a : Addr} {i : Nat} (x : itK b h it a i) : ∃ o, h.get? it = some o ∧ ∀ v, o.data ≠ .cell v := by
  cases b with
  | true => obtain ⟨o, e, _, d⟩ := x; exact ⟨o, e, fun v z => by rw [d] at z; cases z⟩
  | false => obtain ⟨o, e, _, d⟩ := x; exact ⟨o, e, fun v z => by rw [d] at z; cases z⟩
theorem begins_k (b : Bool) (a : Addr) (items : Array Value) : Begins (.ref a) (itO b a) fun h => isK b h a items := by
  cases b with
  | true => exact begins_list a items
  | false => exact begins_tuple a items
theorem draws_k {prog : Program} {w : World} {A : Around} (hh : A.handled = none) (b : Bool) (it a : Addr) (hne : a ≠ it) (items : Array Value) :
    Draws prog w A it [it, a] items.size (fun i v => items[i]? = some v) fun i h => itK b h it a i ∧ isK b h a items := by
  cases b with
  | true => exact Draws.list hh it a hne items
  | false => exact Draws.tuple hh it a hne items
section
variable {X : Cx} {pins : List (Addr × Obj)} {σ : L2.St} {H : Hp} {s : Shared}
theorem isK_of (I : Inv X pins σ H s) {b : Bool} {a : Addr} {xs : List V} (h : H a = some (sqO b xs)) : ∃ its : List Value, Vals xs its ∧ isK b s.heap a its.toArray := by
  cases b with
  | true =>
    obtain ⟨its, r, p, _⟩ := I.list (SqL.of h)
    exact ⟨its, r, p.isList⟩
  | false =>
    obtain ⟨its, r, p, _⟩ := I.tuple (SqT.of h)
    exact ⟨its, r, p⟩
end
/-- a new tuple of two things, told of the heap -/
theorem pair_ok {P : Program} {w : World} {H : Hp} {h : Heap} {T : Addr} {x y : V} {u v : Value} (r1 : RelV x u) (r2 : RelV y v) (t : h.IsTuple T #[u, v]) : ObjOk P w H h T (.tup [x, y]) :=
  ⟨by show 2 ≤ sizeLine; decide, [u, v], .cons r1 (.cons r2 .nil), t⟩
/-! enumerate of a list or a tuple -/
theorem meets_enum1 {v : Value} {o : Obj} {H : Heap → Prop} (B : Begins v o H) :
    Meets (Builtin.«enumerate.__new__» ⟨[.type "enumerate", v], []⟩) (fun _ R s => H s.heap ∧
      R (.ok (.ret (.ref (s.heap.push o).objs.size))) { s with heap := (s.heap.push o).push { cls := .type "enumerate", data := .fields #[.none, .bool false, .ref s.heap.objs.size, rawInt 0, .none, .none] } }) := by
  refine .of_wp fun prog w A R s h => ?_
  obtain ⟨hp, g, d, tk, os⟩ := s
  obtain ⟨h1, h⟩ := h
  have hsub := sub_enumerate
  have go : ∀ {A' : Around} {E : Value → Shared → Prop} {Q : Value → Shared → Prop}, Q (.ref hp.objs.size) ⟨hp.push o, g, d, tk, os⟩ → wpAny (model prog w) A' (pyIter v) Q E ⟨hp, g, d, tk, os⟩ :=
    fun q => B.iter prog w _ _ ⟨hp, g, d, tk, os⟩ _ h1 q
  wp_walk using go
  refine wpAny_stack_any fun st => wpAny_pure ?_
  split
  · rename_i c _ _ _ _ _
    cases (c == Value.type "enumerate") <;> (wp_walk using go; exact ⟨_, rfl, h⟩)
  · wp_walk using go
    exact ⟨_, rfl, h⟩
theorem call_enum1 {prog : Program} {w : World} {A : Around} {E : Value → Shared → Prop} {s : Shared} {v : Value} {o : Obj} {H : Heap → Prop} {Q : Value → Shared → Prop} (B : Begins v o H) (h1 : H s.heap)
    (h : ∀ h', IsEnum h' (s.heap.objs.size + 1) s.heap.objs.size 0 .none → h'.get? s.heap.objs.size = some o → (∀ b o, s.heap.get? b = some o → h'.get? b = some o) → Q (.ref (s.heap.objs.size + 1)) { s with heap := h' }) :
    wpAny (model prog w) A (call (.type "enumerate") [v]) Q E s := by
  refine callType_new F.called_enumerate (by decide) (F.typeCall_enumerate_1 _) (F.newCall_enumerate_1 _) (fun obj => F.args_object_init_2 obj _) F.entry_enumerate_new (meets_enum1 B) ⟨h1, ?_⟩
  have hz : (s.heap.push o).objs.size = s.heap.objs.size + 1 := Heap.size_push ..
  have he : ((s.heap.push o).push { cls := .type "enumerate", data := .fields #[.none, .bool false, .ref s.heap.objs.size, rawInt 0, .none, .none] }).get? (s.heap.push o).objs.size = some _ := Heap.get?_push_size _ rfl
  rw [hz] at he
  show _ ∧ _
  rw [hz]
  exact ⟨⟨_, he, rfl⟩, h _ he (Heap.get?_push_of_some _ (Heap.get?_push_size _ B.free)) fun b u x => Heap.get?_push_of_some _ (Heap.get?_push_of_some _ x)⟩
/-- what enumerate gives: the place and the item, a new pair each -/
def ItE (b : Bool) (a : Addr) : It :=
  ⟨fun i H => ∃ xs x, H a = some (sqO b xs) ∧ xs[i]? = some x, fun i H v H' => ∃ T x, v = .ref T ∧ H T = none ∧ H' = upd H T (.tup [.int (i : Nat), x]) ∧ ∀ xs, H a = some (sqO b xs) → xs[i]? = some x, fun i H => ∃ xs, H a = some (sqO b xs) ∧ xs.length = i⟩
def tnE (b : Bool) (a e it : Addr) : Nat → Heap → Prop := fun i h => (∃ old, IsEnum h e it ((i : Nat) : Int) old) ∧ itK b h it a i ∧ e ≠ it ∧ a ≠ it ∧ a ≠ e
theorem fp2 {α : Type} {P : α → Prop} {a b : α} (ha : P a) (hb : P b) : ∀ x ∈ [a, b], P x := fun x hx => by
  rcases List.mem_cons.mp hx with rfl | hx
  · exact ha
  · rw [List.mem_singleton.mp hx]; exact hb
theorem turn_enumK {P : Program} {w : World} {K : PySem.W.Frag} {elts : List Expr} {kk : Nat} {tpos : Pos} (b : Bool) (a e it : Addr) : Turn P w K (.Tuple elts kk tpos) (ItE b a) [e, it] e (tnE b a e it) where
  mem := List.mem_cons_self ..
  obj := fun i h st c hc => fp2 (P := fun c => ∃ o, h.get? c = some o ∧ ∀ v, o.data ≠ .cell v) (by obtain ⟨⟨old, he⟩, _⟩ := st; exact ⟨_, he, fun v q => nomatch q⟩) (itK_ob st.2.1) c hc
  keep := fun i h h' st k => ⟨by obtain ⟨⟨old, he⟩, _⟩ := st; exact ⟨old, k e (List.mem_cons_self ..) _ he⟩, itK_at st.2.1 fun o q => k it (by simp) o q, st.2.2⟩
  item := by
    intro X hP hw hK hc i pins s σ H E I hf st hg
    subst hP hw hK
    obtain ⟨⟨old, he⟩, hit, n1, n2, n3⟩ := st
    obtain ⟨xs, x, hq, hx⟩ := hg
    obtain ⟨its, rv, p⟩ := isK_of I hq
    obtain ⟨u, hu, ru⟩ := rv.get hx
    have W := GoesN.enumFrom (prog := X.prog) (w := X.w) (A := X.A) (elts := elts) (x1 := kk) (pos := tpos) 0 (draws_k (A := X.A.in1) (I.ok.hd hc) b it a n2 its.toArray) e n1 (by simp [n1, Ne.symm n3]) (by simp)
    have hil : i < its.toArray.size := by rw [List.size_toArray]; exact (List.getElem?_eq_some_iff.mp hu).1
    refine W.goes i s _ E hil ⟨⟨old, by rw [Int.zero_add]; exact he⟩, hit, p⟩ fun v h' tk hY st' hk htk => ?_
    obtain ⟨T, t, x', rfl, hT, hx', htp⟩ := hY
    have ex : x' = u := by
      have q : its[i]? = some x' := by simpa using hx'
      exact Option.some.inj (q.symm.trans hu)
    subst ex
    have hTn : H T = none := I.hok.fresh hT
    have I1 : Inv X pins σ (upd H T (.tup [.int (i : Nat), x])) { s with heap := h', toks := tk } := I.turnedNew (ch := [e, it]) hk hf hT (pair_ok ⟨t, by rw [Int.zero_add]⟩ ru htp)
    refine ⟨.ref T, _, I1, rfl, ⟨T, x, rfl, hTn, rfl, fun ys hy => ?_⟩, ⟨?_, st'.2.1, n1, n2, n3⟩, fun c hc' => ?_⟩
    · rw [hq] at hy
      rw [← sqO_inj (Option.some.inj hy)]
      exact hx
    · obtain ⟨old', q⟩ := st'.1
      exact ⟨old', by rw [Int.zero_add] at q; exact q⟩
    · have lt : c < s.heap.objs.size := fp2 (P := fun c => c < s.heap.objs.size) (Heap.lt_size he) (by obtain ⟨o, q, _⟩ := itK_ob hit; exact Heap.lt_size q) c hc'
      rw [upd_ne (Nat.ne_of_lt (Nat.lt_of_lt_of_le lt hT))]
      exact (hf c hc').1
  done := by
    intro X hP hw hK hc i pins s σ H E I hf st hg
    subst hP hw hK
    obtain ⟨⟨old, he⟩, hit, n1, n2, n3⟩ := st
    obtain ⟨xs, hq, hx⟩ := hg
    obtain ⟨its, rv, p⟩ := isK_of I hq
    have hi : its.toArray.size = i := by rw [List.size_toArray, ← rv.length]; exact hx
    have W := GoesN.enumFrom (prog := X.prog) (w := X.w) (A := X.A) (elts := elts) (x1 := kk) (pos := tpos) 0 (draws_k (A := X.A.in1) (I.ok.hd hc) b it a n2 its.toArray) e n1 (by simp [n1, Ne.symm n3]) (by simp)
    subst hi
    exact W.stops s (fun s1 => Inv X pins σ H s1) E ⟨⟨old, by rw [Int.zero_add]; exact he⟩, hit, p⟩ fun h' tk hk htk => I.turnedL (ch := [e, it]) hk hf
  self := fun A i s Q E st h => by obtain ⟨⟨_, he⟩, _⟩ := st; exact wpAny_pyIter_enum he h
/-- enumerate(e), e a list or a tuple -/
def iEnumK (ta : TA) : TI := fun σ H R => ta σ H fun vs H1 => ∃ a b xs, vs = [.ref a] ∧ H1 a = some (sqO b xs) ∧ R (ItE b a) H1
theorem pi_enumK {X : Cx} {e : Expr} {ta : TA} {p pos tpos : Pos} {elts : List Expr} {kk : Nat} (hg : Gl X "enumerate") (hm : X.mg "enumerate" = none) (ha : PA X [e] ta) (hs : starEach [e] X.env = [(false, eval e X.env)] := by rfl) :
    PI X (.Tuple elts kk tpos) (.Call (.Name "enumerate" p) [e] [] pos) (iEnumK ta) := by
  refine ⟨fun pins s σ H R I h => Call_ (ld_blt I hg hm boot_enumerate (PyProof.Rows.callWith_type1 (thn (ha.run pos pins s σ H _ I h) fun us s1 ⟨vs, H1, I1, r1, q1⟩ => ?_) hs rfl))⟩
  obtain ⟨a, b, xs, rfl, hq, q⟩ := q1
  rw [Vals.ref1 r1]
  obtain ⟨its, rv, pl⟩ := isK_of I1 hq
  refine call_enum1 (begins_k b a its.toArray) pl fun h' he hit hk => wpAny_pyIter_enum he ?_
  have la : a < s1.heap.objs.size := I1.hok.lt hq
  refine ⟨s1.heap.objs.size + 1, [s1.heap.objs.size + 1, s1.heap.objs.size], _, ItE b a, H1, rfl, I1.kept (t' := s1.toks) hk, turn_enumK b a _ _, ⟨⟨.none, he⟩, itK_new hit, Nat.succ_ne_self _, Nat.ne_of_lt la, Nat.ne_of_lt (Nat.lt_succ_of_lt la)⟩, fun c hc => ?_, q⟩
  have le : s1.heap.objs.size ≤ c := fp2 (P := fun c => s1.heap.objs.size ≤ c) (Nat.le_succ _) (Nat.le_refl _) c hc
  exact I1.fpOk le (I1.hok.fresh le)
theorem walk_enumK {b : Bool} {a : Addr} {xs : List V} : Walk (ItE b a) xs.length (fun H => H a = some (sqO b xs)) (YPair (fun i => some (.int (i : Nat))) fun i => xs[i]?) :=
  ⟨fun i H hi q => ⟨xs, xs[i], q, by simp [hi]⟩, fun H q => ⟨xs, q, rfl⟩, fun i H v H' _ q ⟨T, x, h1, h2, h3, h4⟩ => ⟨T, .int (i : Nat), x, h1, h2, h3, rfl, h4 xs q⟩⟩
end Ly
set_option Elab.async false
set_option linter.all false
set_option maxRecDepth 100000
set_option maxHeartbeats 4000000
namespace Ly
open PySem PySem.Spec PyProof.Rows L2
/-! zip of two, each a list or a tuple -/
def ItZ (b1 b2 : Bool) (a1 a2 : Addr) : It :=
  ⟨fun i H => ∃ xs ys x y, H a1 = some (sqO b1 xs) ∧ H a2 = some (sqO b2 ys) ∧ xs[i]? = some x ∧ ys[i]? = some y,
   fun i H v H' => ∃ T x y, v = .ref T ∧ H T = none ∧ H' = upd H T (.tup [x, y]) ∧ (∀ xs, H a1 = some (sqO b1 xs) → xs[i]? = some x) ∧ ∀ ys, H a2 = some (sqO b2 ys) → ys[i]? = some y,
   fun i H => ∃ xs ys, H a1 = some (sqO b1 xs) ∧ H a2 = some (sqO b2 ys) ∧ min xs.length ys.length = i⟩
/-- the five new objects of a zip that began at N -/
def zf (N : Addr) : List Addr := [N + 4, N + 2, N + 3, N, N + 1]
def tnZ (b1 b2 : Bool) (a1 a2 N : Addr) : Nat → Heap → Prop := fun i h => IsZip h (N + 4) (N + 2) (N + 3) .none ∧ IsTupOf2 h (N + 2) (.ref N) (.ref (N + 1)) ∧ (∃ u v, IsTupOf2 h (N + 3) u v) ∧ itK b1 h N a1 i ∧ itK b2 h (N + 1) a2 i ∧ a1 < N ∧ a2 < N
theorem zf_all {P : Addr → Prop} {N : Addr} (h4 : P (N + 4)) (h2 : P (N + 2)) (h3 : P (N + 3)) (h0 : P N) (h1 : P (N + 1)) : ∀ c ∈ zf N, P c := fun c hc => by
  have e : c = N + 4 ∨ c = N + 2 ∨ c = N + 3 ∨ c = N ∨ c = N + 1 := by simpa [zf] using hc
  rcases e with rfl | rfl | rfl | rfl | rfl <;> assumption
def YZ (i1 i2 : Array Value) : Nat → Heap → Value → Heap → Prop := fun i h₀ v h => ∃ T x y, v = .ref T ∧ h₀.objs.size ≤ T ∧ i1[i]? = some x ∧ i2[i]? = some y ∧ h.IsTuple T #[x, y]
def stZ (b1 b2 : Bool) (a1 a2 N : Addr) (i1 i2 : Array Value) : Nat → Heap → Prop := fun i h => IsZip h (N + 4) (N + 2) (N + 3) .none ∧ IsTupOf2 h (N + 2) (.ref N) (.ref (N + 1)) ∧ (∃ u v, IsTupOf2 h (N + 3) u v) ∧ (itK b1 h N a1 i ∧ isK b1 h a1 i1) ∧ itK b2 h (N + 1) a2 i ∧ isK b2 h a2 i2
theorem zip_goes {prog : Program} {w : World} {A : Around} (hh : A.handled = none) {elts : List Expr} {kk : Nat} {tpos : Pos} (b1 b2 : Bool) {a1 a2 N : Addr} (h1 : a1 < N) (h2 : a2 < N) (i1 i2 : Array Value) :
    GoesN prog w A (.Tuple elts kk tpos) (N + 4) ((N + 4) :: (N + 2) :: (N + 3) :: ([N, a1] ++ [N + 1, a2])) [N + 4, N + 3, N, N + 1] (min i1.size i2.size) (YZ i1 i2) (stZ b1 b2 a1 a2 N i1 i2) :=
  GoesN.zip2 (zip_sep2 (N := N) (fp1 := [a1]) (fp2 := [a2]) (by simpa using h1) (by simpa using h2))
    (draws_k (A := A.in1) hh b1 N a1 (Nat.ne_of_lt h1) i1) (draws_k (A := A.in1) hh b2 (N + 1) a2 (Nat.ne_of_lt (Nat.lt_succ_of_lt h2)) i2)
theorem tnZ_ob {b1 b2 : Bool} {a1 a2 N : Addr} {i : Nat} {h : Heap} (st : tnZ b1 b2 a1 a2 N i h) : ∀ c ∈ zf N, ∃ o, h.get? c = some o ∧ ∀ v, o.data ≠ .cell v := by
  obtain ⟨s1, s2, ⟨u, v, s3⟩, s4, s5, _⟩ := st
  exact zf_all ⟨_, s1, fun v q => nomatch q⟩ ⟨_, s2, fun v q => nomatch q⟩ ⟨_, s3, fun v q => nomatch q⟩ (itK_ob s4) (itK_ob s5)
theorem sub4 {N : Addr} {c : Addr} (h : c ∈ [N + 4, N + 3, N, N + 1]) : c ∈ zf N := by
  have e : c = N + 4 ∨ c = N + 3 ∨ c = N ∨ c = N + 1 := by simpa using h
  rcases e with rfl | rfl | rfl | rfl <;> simp [zf]
theorem turn_zipK {P : Program} {w : World} {K : PySem.W.Frag} {elts : List Expr} {kk : Nat} {tpos : Pos} (b1 b2 : Bool) (a1 a2 N : Addr) : Turn P w K (.Tuple elts kk tpos) (ItZ b1 b2 a1 a2) (zf N) (N + 4) (tnZ b1 b2 a1 a2 N) where
  mem := List.mem_cons_self ..
  obj := fun i h st => tnZ_ob st
  keep := fun i h h' st k => by
    obtain ⟨s1, s2, ⟨u, v, s3⟩, s4, s5, s6⟩ := st
    exact ⟨k _ (by simp [zf]) _ s1, k _ (by simp [zf]) _ s2, ⟨u, v, k _ (by simp [zf]) _ s3⟩, itK_at s4 fun o q => k N (by simp [zf]) o q, itK_at s5 fun o q => k (N + 1) (by simp [zf]) o q, s6⟩
  item := by
    intro X hP hw hK hc i pins s σ H E I hf st hg
    subst hP hw hK
    have ob := tnZ_ob st
    obtain ⟨s1, s2, s3, s4, s5, l1, l2⟩ := st
    obtain ⟨xs, ys, x, y, hq, hq2, hx, hy⟩ := hg
    obtain ⟨its, rv, p⟩ := isK_of I hq
    obtain ⟨its2, rv2, p2⟩ := isK_of I hq2
    obtain ⟨u, hu, ru⟩ := rv.get hx
    obtain ⟨u2, hu2, ru2⟩ := rv2.get hy
    have W := zip_goes (prog := X.prog) (w := X.w) (A := X.A) (I.ok.hd hc) (elts := elts) (kk := kk) (tpos := tpos) b1 b2 l1 l2 its.toArray its2.toArray
    have e1 := (List.getElem?_eq_some_iff.mp hu).1
    have e2 := (List.getElem?_eq_some_iff.mp hu2).1
    refine W.goes i s _ E (by simp only [List.size_toArray]; omega) ⟨s1, s2, s3, ⟨s4, p⟩, s5, p2⟩ fun v h' tk hY st' hk htk => ?_
    obtain ⟨T, u', u2', rfl, hT, hx', hy', htp⟩ := hY
    have f1 : u' = u := Option.some.inj ((show its[i]? = some u' by simpa using hx').symm.trans hu)
    have f2 : u2' = u2 := Option.some.inj ((show its2[i]? = some u2' by simpa using hy').symm.trans hu2)
    subst f1 f2
    have hTn : H T = none := I.hok.fresh hT
    have I1 : Inv X pins σ (upd H T (.tup [x, y])) { s with heap := h', toks := tk } := I.turnedNew (ch := [N + 4, N + 3, N, N + 1]) hk (fun c hc' => hf c (sub4 hc')) hT (pair_ok ru ru2 htp)
    refine ⟨.ref T, _, I1, rfl, ⟨T, x, y, rfl, hTn, rfl, fun zs hz => ?_, fun zs hz => ?_⟩, ⟨st'.1, st'.2.1, st'.2.2.1, st'.2.2.2.1.1, st'.2.2.2.2.1, l1, l2⟩, fun c hc' => ?_⟩
    · rw [hq] at hz
      rw [← sqO_inj (Option.some.inj hz)]
      exact hx
    · rw [hq2] at hz
      rw [← sqO_inj (Option.some.inj hz)]
      exact hy
    · obtain ⟨o, q, _⟩ := ob c hc'
      rw [upd_ne (Nat.ne_of_lt (Nat.lt_of_lt_of_le (Heap.lt_size q) hT))]
      exact (hf c hc').1
  done := by
    intro X hP hw hK hc i pins s σ H E I hf st hg
    subst hP hw hK
    obtain ⟨s1, s2, s3, s4, s5, l1, l2⟩ := st
    obtain ⟨xs, ys, hq, hq2, hx⟩ := hg
    obtain ⟨its, rv, p⟩ := isK_of I hq
    obtain ⟨its2, rv2, p2⟩ := isK_of I hq2
    have hi : min its.toArray.size its2.toArray.size = i := by rw [List.size_toArray, List.size_toArray, ← rv.length, ← rv2.length]; exact hx
    have W := zip_goes (prog := X.prog) (w := X.w) (A := X.A) (I.ok.hd hc) (elts := elts) (kk := kk) (tpos := tpos) b1 b2 l1 l2 its.toArray its2.toArray
    rw [hi] at W
    exact W.stops s (fun s1 => Inv X pins σ H s1) E ⟨s1, s2, s3, ⟨s4, p⟩, s5, p2⟩ fun h' tk hk htk => I.turnedL (ch := [N + 4, N + 3, N, N + 1]) hk fun c hc' => hf c (sub4 hc')
  self := fun A i s Q E st h => wpAny_pyIter_zip st.1 h
def iZipK (ta : TA) : TI := fun σ H R => ta σ H fun vs H1 => ∃ a1 a2 b1 b2 xs ys, vs = [.ref a1, .ref a2] ∧ H1 a1 = some (sqO b1 xs) ∧ H1 a2 = some (sqO b2 ys) ∧ R (ItZ b1 b2 a1 a2) H1
theorem pi_zipK {X : Cx} {e e2 : Expr} {ta : TA} {p pos tpos : Pos} {elts : List Expr} {kk : Nat} (hg : Gl X "zip") (hm : X.mg "zip" = none) (ha : PA X [e, e2] ta)
    (hs : starEach [e, e2] X.env = (false, eval e X.env) :: starEach [e2] X.env := by rfl) (hpl : (backTo pos (starEach [e2] X.env)).any (·.1) = false := by rfl) :
    PI X (.Tuple elts kk tpos) (.Call (.Name "zip" p) [e, e2] [] pos) (iZipK ta) := by
  refine ⟨fun pins s σ H R I h => Call_ (ld_blt I hg hm PyProof.Rows.boot_zip (PyProof.Rows.callWith_type1 (thn (ha.run pos pins s σ H _ I h) fun us s1 ⟨vs, H1, I1, r1, q1⟩ => ?_) hs hpl))⟩
  obtain ⟨a1, a2, b1, b2, xs, ys, rfl, hq, hq2, q⟩ := q1
  have eu : us = [.ref a1, .ref a2] := by
    cases r1 with
    | cons r rr =>
      cases rr with
      | cons r' rr => cases rr; cases r; cases r'; rfl
  subst eu
  obtain ⟨its, rv, pl⟩ := isK_of I1 hq
  obtain ⟨its2, rv2, pl2⟩ := isK_of I1 hq2
  refine zip_begins2 (begins_k b1 a1 its.toArray) (begins_k b2 a2 its2.toArray) pl pl2 fun h' z1 z2 z3 z4 z5 hsz hk => wpAny_pyIter_zip z1 ?_
  refine ⟨s1.heap.objs.size + 4, zf s1.heap.objs.size, _, ItZ b1 b2 a1 a2, H1, rfl, I1.kept (t' := s1.toks) hk, turn_zipK b1 b2 a1 a2 s1.heap.objs.size, ⟨z1, z2, ⟨_, _, z3⟩, itK_new z4, itK_new z5, I1.hok.lt hq, I1.hok.lt hq2⟩, fun c hc => ?_, q⟩
  have le : s1.heap.objs.size ≤ c := zf_all (P := fun c => s1.heap.objs.size ≤ c) (Nat.le_add_right _ _) (Nat.le_add_right _ _) (Nat.le_add_right _ _) (Nat.le_refl _) (Nat.le_add_right _ _) c hc
  exact I1.fpOk le (I1.hok.fresh le)
theorem walk_zipK {b1 b2 : Bool} {a1 a2 : Addr} {xs ys : List V} : Walk (ItZ b1 b2 a1 a2) (min xs.length ys.length) (fun H => H a1 = some (sqO b1 xs) ∧ H a2 = some (sqO b2 ys)) (YPair (fun i => xs[i]?) fun i => ys[i]?) := by
  refine ⟨fun i H hi q => ?_, fun H q => ⟨xs, ys, q.1, q.2, rfl⟩, fun i H v H' _ q ⟨T, x, y, h1, h2, h3, h4, h5⟩ => ⟨T, x, y, h1, h2, h3, h4 xs q.1, h5 ys q.2⟩⟩
  have h1 : i < xs.length := by omega
  have h2 : i < ys.length := by omega
  exact ⟨xs, ys, xs[i], ys[i], q.1, q.2, by simp [h1], by simp [h2]⟩
end Ly
set_option Elab.async false
set_option linter.all false
set_option maxRecDepth 100000
set_option maxHeartbeats 4000000
namespace Ly
open PySem PySem.Spec PyProof.Rows L2
/-! tuple(range(a, b, c)) -/
def rg3V (i c : Int) (n : Nat) : List V := (List.range n).map fun k => V.int (i + (k : Nat) * c)
def rg3D (i c : Int) (n : Nat) : List PyData := (List.range n).map fun k => PyData.int (i + (k : Nat) * c)
theorem rg3_rp (i c : Int) (n : Nat) (H : Hp) : RpAll H (rg3V i c n) (rg3D i c n) := by
  have e1 : rg3V i c n = ((List.range n).map fun k => i + (k : Nat) * c).map V.int := by unfold rg3V; rw [List.map_map]; rfl
  have e2 : rg3D i c n = ((List.range n).map fun k => i + (k : Nat) * c).map PyData.int := by unfold rg3D; rw [List.map_map]; rfl
  rw [e1, e2]
  exact dpa_of_ints _
def okRg3 (i j c : Int) : Bool := decide (c ≠ 0 ∧ c.natAbs < 1073741824) && (Builtin.Range.small i j c && decide (0 ≤ Builtin.Range.rangeSize i j c ∧ Builtin.Range.rangeSize i j c ≤ 100000))
def mRg3 (a b c : ME) : ML := fun r => (iM a r).bind fun i => (iM b r).bind fun j => (iM c r).bind fun k => if okRg3 i j k then some (rg3D i k (Builtin.Range.rangeSize i j k).toNat) else none
section
variable {X : Cx} {a b c : Expr} {ma mb mc : ME} {pos : Pos}
theorem de_tupRg3 {p p2 q : Pos} (hc : X.calm = true) (hg : Gl X "tuple") (hm : X.mg "tuple" = none) (hg2 : Gl X "range") (hm2 : X.mg "range" = none) (ha : PE X a (TD ma)) (hb : PE X b (TD mb)) (hd : PE X c (TD mc))
    (n1 : starEach [a, b, c] X.env = (false, eval a X.env) :: starEach [b, c] X.env := by rfl) (n2 : starEach [b, c] X.env = (false, eval b X.env) :: starEach [c] X.env := by rfl) (n3 : starEach [c] X.env = (false, eval c X.env) :: starEach [] X.env := by rfl)
    (n4 : (backTo q (starEach [b, c] X.env)).any (·.1) = false := by rfl) (n5 : starEach [.Call (.Name "range" p2) [a, b, c] [] q] X.env = (false, eval (.Call (.Name "range" p2) [a, b, c] [] q) X.env) :: starEach [] X.env := by rfl) :
    PE X (.Call (.Name "tuple" p) [.Call (.Name "range" p2) [a, b, c] [] q] [] pos) (TD fun r => (mRg3 ma mb mc r).map PyData.tuple) := by
  refine ⟨fun pins s σ H Q I h => ?_⟩
  obtain ⟨O, r, d, E, hmm, k⟩ := h
  obtain ⟨ds, e0, hmm⟩ := map_some hmm
  subst hmm
  have hl := da_cons ha (da_cons hb (da_cons hd da_nil n3) n2) n1
  obtain ⟨i, e1, e0⟩ := bind_some e0
  obtain ⟨j, e2, e0⟩ := bind_some e0
  obtain ⟨l, e3, e0⟩ := bind_some e0
  obtain ⟨ok, e4⟩ := iteSome e0
  subst e4
  obtain ⟨k1, ok2⟩ := Bool.and_eq_true_iff.mp ok
  obtain ⟨k2, k3⟩ := Bool.and_eq_true_iff.mp ok2
  obtain ⟨c0, c1⟩ := of_decide_eq_true k1
  obtain ⟨c2, c3⟩ := of_decide_eq_true k3
  have hl2 := hl.run q pins s σ H (fun vs H1 => vs = [.int i, .int j, .int l] ∧ Ext H H1) I ⟨O, r, [.int i, .int j, .int l], E, by
    unfold mCons mNil
    rw [iM_ok e1, iM_ok e2, iM_ok e3]
    rfl, fun vs H1 x1 q1 => ⟨dpa_ints (ns := [i, j, l]) q1, x1⟩⟩
  refine Call_ (ld_blt I hg hm boot_tuple (PyProof.Rows.callWith_type1 (PyProof.Rows.args_cons ?_ n5) n5 rfl))
  refine Call_ (ld_blt I hg2 hm2 boot_range (PyProof.Rows.callWith_type1 (thn hl2 fun us s1 w => ?_) n1 n4))
  obtain ⟨vs, H1, I1, r1, rfl, x1⟩ := w
  obtain ⟨t1, t2, t3, rfl⟩ : ∃ t1 t2 t3, us = [.int i t1, .int j t2, .int l t3] := by
    cases r1 with
    | cons r rr =>
      cases rr with
      | cons r' rr =>
        cases rr with
        | cons r'' rr =>
          cases rr
          obtain ⟨t1, rfl⟩ := r
          obtain ⟨t2, rfl⟩ := r'
          obtain ⟨t3, rfl⟩ := r''
          exact ⟨t1, t2, t3, rfl⟩
  refine call_range_3 c0 (PyProof.Rows.args_nil ?_) (.inl (PyProof.noPylong_small c1))
  have I2 : Inv X pins σ H1 { s1 with heap := s1.heap.push { cls := .type "range", data := .fields #[.int i t1, .int j t2, .int l t3] } } := I1.kept (t' := s1.toks) fun b o e => Heap.get?_push_of_some _ e
  have hn : Builtin.Range.rangeSize i j l = ((Builtin.Range.rangeSize i j l).toNat : Int) := by omega
  refine call_tuple_range (I2.ok.hd hc) (IsRange.new ..) k2 hn (by omega) fun h' tk acc hk hi => ?_
  have I3 : Inv X pins σ H1 { s1 with heap := h', toks := tk } := I2.kept hk
  have hv : Vals (rg3V i l (Builtin.Range.rangeSize i j l).toNat) acc.toList := by
    have e : acc.toList.length = (Builtin.Range.rangeSize i j l).toNat := by rw [Array.length_toList]; exact hi.1
    unfold rg3V
    rw [← e]
    refine vals_of_get acc.toList _ fun m u hm => ?_
    obtain ⟨t, rfl⟩ := hi.2 m u (by rw [← hm, Array.getElem?_toList])
    exact ⟨t, rfl⟩
  have hz : (rg3V i l (Builtin.Range.rangeSize i j l).toNat).length ≤ sizeLine := by
    unfold rg3V
    rw [List.length_map, List.length_range]
    exact szl (by omega)
  have hf := I3.hok.fresh (Nat.le_refl h'.objs.size)
  refine ⟨.ref h'.objs.size, upd H1 h'.objs.size (.tup (rg3V i l (Builtin.Range.rangeSize i j l).toNat)), I3.laid (t' := tk) (fun c o e => Heap.get?_push_of_some _ e) (Nat.le_refl _) (show ObjOk X.prog X.w _ _ _ (.tup _) from ⟨hz, acc.toList, hv, ?_⟩), rfl, k _ _ (x1.trans (Ext.new hf)) (new_tup E x1 hf (rg3_rp i l _ _))⟩
  rw [Array.toArray_toList]
  exact IsTup.new _ _
end
end Ly
set_option Elab.async false
set_option linter.all false
set_option maxRecDepth 100000
set_option maxHeartbeats 4000000
namespace Ly
open PySem PySem.Spec PyProof.Rows L2
/-! a tuple times one is itself -/
theorem tuple_mul1 (l : Addr) (items : Array Value) (n : Nat) (dd : Option Addr) (sl : Array (Option Value)) (u : Tok) :
    Meets (Builtin.«tuple.__mul__» ⟨[.ref l, .int 1 u], []⟩) (fun _ R s => s.heap.get? l = some { cls := .type "tuple", dict := dd, data := .seq items n, slots := sl } ∧ R (.ok (.ret (.ref l))) s) := by
  refine .of_wp fun prog w A R s h => ?_
  obtain ⟨hp, g, d, tk, os⟩ := s
  obtain ⟨hl, h⟩ := h
  have f1 := AutoSeq1.idx_int
  wp_walk using wpAny_loadPart' hl
  exact ⟨_, rfl, h⟩
section
variable {X : Cx}
def rRep1 (K : PySem.W.Frag) : R2 := fun x y H Q => ∃ l xs, x = .ref l ∧ y = .int 1 ∧ SqT K H l xs ∧ Q (.ref l) H
theorem op_rep1 : OpR X (binaryOp .Mult) (rRep1 X.K) := by
  intro pins s σ H x y v u Q I rx ry h
  obtain ⟨l, xs, rfl, rfl, hT, q⟩ := h
  cases rx
  obtain ⟨t, rfl⟩ := ry
  obtain ⟨its, r, ⟨⟨cls, dd, data, sl⟩, ho, hc, n, hd⟩, hs⟩ := I.tuple hT
  simp only at hc hd
  subst hc hd
  exact wpAny_binaryOp_repeat_ref (T := "tuple") (U := "int") (by decide) ⟨_, ho, rfl⟩ (fun s' => typeIs_int s' 1 t) noFill_tuple_mul F.fills_int_mul F.slot_int_rmul repeat_tuple F.slot_int_index.lookup
    (call_meets F.slot_int_rmul (typeIs_int s 1 t) F.entry_int_rmul (F.args_int_rmul_2 _ _) (int_rmul_tuple 1 t l its.toArray n dd sl)
      ⟨ho, rfl, ⟨_, ho, rfl⟩, call_meets F.slot_tuple_mul ⟨_, ho, rfl⟩ F.entry_tuple_mul (F.args_tuple_mul_2 _ _) (tuple_mul1 l its.toArray n dd sl t) ⟨ho, .ref l, H, I, rfl, q⟩⟩)
variable {a b : Expr} {ma mb : ME} {pos : Pos}
def mRep (m s : ME) : ME := fun r => ((m r).bind asTup).bind fun ds => (iM s r).bind fun k => if !ds.isEmpty && decide (1 ≤ k ∧ k ≤ 1000 ∧ ds.length ≤ 1000) then some (.tuple (List.replicate k.toNat ds).flatten) else none
theorem dpa_rep {H : Hp} {vs : List V} {ds : List PyData} (h : RpAll H vs ds) : ∀ n : Nat, RpAll H (List.replicate n vs).flatten (List.replicate n ds).flatten
  | 0 => .nil
  | n + 1 => by
    rw [List.replicate_succ, List.replicate_succ, List.flatten_cons, List.flatten_cons]
    exact dpa_app h (dpa_rep h n)
theorem de_rep (ha : PE X a (TD ma)) (hb : PE X b (TD mb)) : PE X (.BinOp a .Mult b pos) (TD (mRep ma mb)) := peW (pe_op (op_repT.or op_rep1) ha hb) fun σ H Q ⟨O, r, d, E, hm, k⟩ => by
  obtain ⟨ds, e1, hm⟩ := bind_some hm
  obtain ⟨d0, e0, e1⟩ := bind_some e1
  obtain ⟨n, e2, hm⟩ := bind_some hm
  obtain ⟨c, e3⟩ := iteSome hm
  obtain ⟨c1, c2⟩ := Bool.and_eq_true_iff.mp c
  obtain ⟨c3, c4, c5⟩ := of_decide_eq_true c2
  have f1 := asTup_ok e1
  subst f1 e3
  refine ⟨O, r, _, E, e0, fun v H1 x1 q1 => ⟨O, r, _, E.ext x1, iM_ok e2, fun w H2 x2 q2 => ?_⟩⟩
  obtain ⟨p, vs, rfl, h1, h2⟩ := dp_tup q1
  rw [dp_int q2]
  have hne : vs ≠ [] := fun z => by
    subst z
    cases h2
    cases c1
  by_cases hn : n = 1
  · subst hn
    refine .inr ⟨p, vs, rfl, rfl, SqT.of (x2 _ _ (hide_sub _ _ _ _ h1)), k _ H2 (x1.trans x2) ?_⟩
    have e4 : (List.replicate (1 : Int).toNat ds).flatten = ds := by simp
    rw [e4]
    exact dp_ext (hide_ext x2) q1
  · exact .inl ⟨p, n, vs, rfl, rfl, SqT.of (x2 _ _ (hide_sub _ _ _ _ h1)), hne, by omega, c4, by rw [dpa_len h2]; exact c5, fun q hq =>
      k _ _ ((x1.trans x2).trans (Ext.new hq)) (new_tup (E.ext x1) x2 hq (dpa_rep (dpa_ext (hide_ext x2) h2) _))⟩
end
end Ly
set_option Elab.async false
set_option linter.all false
set_option maxRecDepth 100000
set_option maxHeartbeats 4000000
namespace Ly
open PySem PySem.Spec PyProof.Rows L2
/-! set(xs), xs a list of whole numbers: as the library's set of a tuple of them, told of a list -/
abbrev set0 (w : World) : Obj := { cls := .type "set", dict := none, data := .set #[] 0 (.fresh 0 0 (!w.params.followText "set-order")) }
section
variable {P : Program} {w : World} {A : Around} {E : Value → Shared → Prop} {s : Shared}
abbrev with0 (w : World) (s : Shared) : Shared := { s with heap := s.heap.push (set0 w) }
theorem call_set_li {l : Addr} {items : Array Value} (ns : List Int) {Q : Value → Shared → Prop} (hh : A.handled = none) (hl : s.heap.IsList l items) (hit : IntsAre items.toList ns) (hb : ns.length + 1 < scanBound)
    (h : ∀ (h' : Heap) (tk c : Nat), SetR w h' s.heap.objs.size (fun j => decide (j ∈ ns)) c → c ≤ ns.length → (∀ b o, s.heap.get? b = some o → h'.get? b = some o) → Q (.ref s.heap.objs.size) { s with heap := h', toks := tk }) :
    wpAny (model P w) A (call (.type "set") [.ref l]) Q E s := by
  have hisz : items.size = ns.length := by rw [← Array.length_toList]; exact IntsAre.length hit
  obtain ⟨c, tl, hmro⟩ := F.called_set.mro
  have hmade := F.called_set.made
  have hsub := F.called_set.sub
  have h1 := F.called_set.notType
  have h2 := F.called_set.canCreate
  have hct := F.typeCall_set_1 (.ref l)
  refine wpAny_call (codeAny_of_tree ?_)
  show wpAny _ _ (callAny (.type "set") _) _ _ _
  refine wpAny_pure ⟨Code.quiet_builtin _ (by decide +kernel), codeAny_builtin F.entry_type_call ?_⟩
  rw [Around.under_plain (weight_type_call_type "set" [.ref l] []) rfl]
  repeat (any_goals (first | assumption | wp_step))
  refine codeAny_mono (code_set_led1 (.ref l) (E := E) (Q₁ := fun obj s₁ => obj = .ref s.heap.objs.size ∧ s₁ = with0 w s) ⟨rfl, rfl⟩) fun r s₁ hr => ?_
  cases r with
  | error e => exact hr
  | ok fl =>
    cases fl with
    | ret obj =>
      obtain ⟨rfl, rfl⟩ := hr
      have hS : (s.heap.push (set0 w)).get? s.heap.objs.size = some (set0 w) := Heap.get?_push_size _ rfl
      have hT : Shared.TypeIs (with0 w s) (.ref s.heap.objs.size) "set" := ⟨_, hS, rfl⟩
      have hli := F.called_set.init.lookup
      have hbi := F.called_set.init.bind (.ref s.heap.objs.size)
      repeat (any_goals (first | assumption | wp_step))
      refine codeAny_mono (codeAny_call_builtin (R := wants (fun r s₂ => r = .none ∧ ∃ h' tk c, s₂ = { s with heap := h', toks := tk } ∧ SetR w h' s.heap.objs.size (fun j => decide (j ∈ ns)) c ∧ c ≤ ns.length ∧ (∀ b o, s.heap.get? b = some o → h'.get? b = some o)) E)
        F.called_set.init.plain F.entry_set_init (check_set_init_1 hT ?_)) fun r₂ s₂ hr₂ => ?_
      · obtain ⟨⟨ocls, odict, odata, oslots⟩, hol, hcl, nl, hdl⟩ := hl
        simp only at hcl hdl
        subst hcl; subst hdl
        have hol' : (s.heap.push (set0 w)).get? l = some { cls := .type "list", dict := odict, data := .seq items nl, slots := oslots } := Heap.get?_push_of_some _ hol
        have hsls := F.sub_list_set
        have hslf := F.sub_list_frozenset
        have hne : (Value.type "list" == Value.type "dict") = false := by decide
        have hl1 : (s.heap.push (set0 w)).IsList l items := ⟨_, hol', rfl, nl, rfl⟩
        have hz1 : (s.heap.push (set0 w)).objs.size = s.heap.objs.size + 1 := Heap.size_push ..
        unfold Builtin.«set.__init__» noKeywords Builtin.Frozenset.updateFrom
        generalize hPI : pyIter = PI
        wp_walk
        subst hPI
        refine wpAny_pyIter_list hl1 (wpAny_bind (wpAny_runValue ?_))
        have hlS : l < s.heap.objs.size := Heap.lt_size hol
        have hh3 : A.in1.in1.in1.handled = none := by simp [hh]
        have hneI : l ≠ (s.heap.push (set0 w)).objs.size := by rw [hz1]; exact Nat.ne_of_lt (Nat.lt_succ_of_lt hlS)
        have hSf : s.heap.objs.size ∉ [(s.heap.push (set0 w)).objs.size, l] := by
          rw [hz1]
          simp only [List.mem_cons, List.not_mem_nil, or_false, not_or]
          exact ⟨Nat.ne_of_lt (Nat.lt_succ_self _), Nat.ne_of_gt hlS⟩
        have hval : ∀ (i : Nat) (v : Value), items[i]? = some v → ∃ k t, ns[i]? = some k ∧ v = .int k t := fun i v hv => by
          have hi : i < ns.length := by rw [← hisz]; exact (Array.getElem?_eq_some_iff.mp hv).1
          obtain ⟨t, e⟩ := PyProof.Rows.IntsAre.int_at hit i v (by rw [Array.getElem?_toList]; exact hv)
          exact ⟨ns[i], t, List.getElem?_eq_getElem hi, by rw [e, List.getD_eq_getElem?_getD, List.getElem?_eq_getElem hi] <;> rfl⟩
        refine set_update_ints ((Walks.list hh3 _ l hneI items).toS) s.heap.objs.size hSf ns hisz hb hval (items.size - 0) 0 _ (by omega) (Nat.zero_le _) ⟨⟨_, Heap.get?_push_size _ rfl, rfl, rfl⟩, hl1.push _⟩ ?_ ?_
        · exact ⟨0, Nat.le_refl 0, setR_new_at (Heap.get?_push_of_some _ hS)⟩
        · intro s' c' hm hc' hS'
          obtain ⟨h', g2, d', tk', os'⟩ := s'
          have eg : g2 = s.gens := hm.gens
          have ed : d' = s.drawn := hm.drawn
          have eo : os' = s.os := hm.os
          subst eg; subst ed; subst eo
          show wpAny _ _ _ _ _ _
          refine wpAny_pure ?_
          show wpAny _ _ (ret Value.none) _ _ _
          rw [hisz] at hc'
          refine wpAny_pure ⟨rfl, h', tk', c', rfl, hS', hc', fun b o e => ?_⟩
          have hb0 : b < s.heap.objs.size := Heap.lt_size e
          refine hm.heap b o ?_ (Heap.get?_push_of_some _ (Heap.get?_push_of_some _ e))
          rw [hz1]
          simp only [List.mem_cons, List.not_mem_nil, or_false, not_or]
          exact ⟨Nat.ne_of_lt hb0, Nat.ne_of_lt (Nat.lt_succ_of_lt hb0)⟩
      · cases r₂ with
        | error e => exact hr₂
        | ok fl₂ =>
          cases fl₂ with
          | ret r =>
            obtain ⟨rfl, h', tk, c', rfl, hS', hc', hk'⟩ := hr₂
            repeat (any_goals (first | assumption | wp_step))
            exact h _ _ _ hS' hc' hk'
          | _ => exact hr₂.elim
    | _ => exact hr.elim
end
end Ly
set_option Elab.async false
set_option linter.all false
set_option maxRecDepth 100000
set_option maxHeartbeats 4000000
namespace Ly
open PySem PySem.Spec PyProof.Rows L2
/-! sorted(set(..)) of whole numbers -/
def insI (x : Int) : List Int → List Int
  | [] => [x]
  | y :: ys => if x < y then x :: y :: ys else if x = y then y :: ys else y :: insI x ys
def sortI : List Int → List Int
  | [] => []
  | x :: xs => insI x (sortI xs)
theorem insI_mem (x k : Int) : ∀ ys : List Int, k ∈ insI x ys ↔ k = x ∨ k ∈ ys
  | [] => by simp [insI]
  | y :: ys => by
    unfold insI
    split
    · simp
    · split
      · next e => subst e; simp
      · simp only [List.mem_cons, insI_mem x k ys]
        constructor
        · rintro (h | h | h)
          · exact .inr (.inl h)
          · exact .inl h
          · exact .inr (.inr h)
        · rintro (h | h | h)
          · exact .inr (.inl h)
          · exact .inl h
          · exact .inr (.inr h)
theorem sortI_mem (k : Int) : ∀ xs : List Int, k ∈ sortI xs ↔ k ∈ xs
  | [] => Iff.rfl
  | x :: xs => by
    show k ∈ insI x (sortI xs) ↔ _
    rw [insI_mem, sortI_mem k xs, List.mem_cons]
theorem insI_up (x : Int) : ∀ {ys : List Int}, ys.Pairwise (· < ·) → (insI x ys).Pairwise (· < ·)
  | [], _ => List.pairwise_singleton _ _
  | y :: ys, h => by
    obtain ⟨h1, h2⟩ := List.pairwise_cons.mp h
    unfold insI
    split
    · next c =>
      refine List.pairwise_cons.mpr ⟨fun z hz => ?_, h⟩
      rcases List.mem_cons.mp hz with rfl | hz
      · exact c
      · exact Int.lt_trans c (h1 z hz)
    · split
      · exact h
      · refine List.pairwise_cons.mpr ⟨fun z hz => ?_, insI_up x h2⟩
        rcases (insI_mem x z ys).mp hz with rfl | hz
        · omega
        · exact h1 z hz
theorem sortI_up : ∀ xs : List Int, (sortI xs).Pairwise (· < ·)
  | [] => List.Pairwise.nil
  | x :: xs => insI_up x (sortI_up xs)
theorem up_uniq : ∀ {xs ys : List Int}, xs.Pairwise (· < ·) → ys.Pairwise (· < ·) → (∀ k, k ∈ xs ↔ k ∈ ys) → xs = ys
  | [], [], _, _, _ => rfl
  | [], y :: ys, _, _, h => absurd ((h y).mpr (List.mem_cons_self ..)) (by simp)
  | x :: xs, [], _, _, h => absurd ((h x).mp (List.mem_cons_self ..)) (by simp)
  | x :: xs, y :: ys, hx, hy, h => by
    obtain ⟨x1, x2⟩ := List.pairwise_cons.mp hx
    obtain ⟨y1, y2⟩ := List.pairwise_cons.mp hy
    have e : x = y := by
      rcases List.mem_cons.mp ((h x).mp (List.mem_cons_self ..)) with e | m
      · exact e
      · rcases List.mem_cons.mp ((h y).mpr (List.mem_cons_self ..)) with e | m2
        · exact e.symm
        · have a := y1 x m
          have b := x1 y m2
          omega
    subst e
    congr 1
    refine up_uniq x2 y2 fun k => ⟨fun m => ?_, fun m => ?_⟩
    · rcases List.mem_cons.mp ((h k).mp (List.mem_cons_of_mem _ m)) with e | m'
      · subst e; exact absurd (x1 k m) (Int.lt_irrefl k)
      · exact m'
    · rcases List.mem_cons.mp ((h k).mpr (List.mem_cons_of_mem _ m)) with e | m'
      · subst e; exact absurd (y1 k m) (Int.lt_irrefl k)
      · exact m'
section
variable {X : Cx}
def rSetI (K : PySem.W.Frag) (w : World) : List V → Hp → VK → Prop := fun vs H Q => ∃ (a : Addr) (ns : List Int), vs = [V.ref a] ∧ (SqL K H a (ns.map V.int) ∨ SqT K H a (ns.map V.int)) ∧ ns.length < 64 ∧
  ∀ (p : Addr) (c : Nat), c ≤ ns.length → H p = none → Q (.ref p) (upd H p (SetO w p (fun j => decide (j ∈ ns)) c))
theorem cr_setI (hc : X.calm = true) : CallR X (.type "set") (rSetI X.K X.w) := by
  intro pins s σ H vs us Q I r h
  obtain ⟨a, ns, rfl, hq, hl, q⟩ := h
  rw [Vals.ref1 r]
  have hb : ns.length + 1 < scanBound := by unfold scanBound; omega
  have fin : ∀ (h' : Heap) (tk c : Nat), SetR X.w h' s.heap.objs.size (fun j => decide (j ∈ ns)) c → c ≤ ns.length → (∀ b o, s.heap.get? b = some o → h'.get? b = some o) → EP X pins σ Q (.ref s.heap.objs.size) { s with heap := h', toks := tk } := fun h' tk c R hcl k =>
    ⟨.ref s.heap.objs.size, _, I.laid (o := SetO X.w s.heap.objs.size (fun j => decide (j ∈ ns)) c) (t' := tk) k (Nat.le_refl _) (setO_new R), rfl, q _ c hcl (I.hok.fresh (Nat.le_refl _))⟩
  rcases hq with hq | hq
  · obtain ⟨its, rv, pl, _⟩ := I.list hq
    exact call_set_li ns (I.ok.hd hc) pl.isList (by simpa using rv.ints) hb fin
  · obtain ⟨its, rv, pl, _⟩ := I.tuple hq
    exact call_set_tupI ns (I.ok.hd hc) pl (by simpa using rv.ints) hb fin
variable {a : Expr} {ma : ME} {pos : Pos}
def mSortSet (m : ME) : ML := fun r => (((m r).bind asSeq).bind allInt).bind fun ns => if ns.length < 64 then some ((sortI ns).map PyData.int) else none
theorem dn_sortSet {p p2 q : Pos} (hc : X.calm = true) (hg : Gl X "sorted") (hm : X.mg "sorted" = none) (hg2 : Gl X "set") (hm2 : X.mg "set" = none) (ha : PE X a (TW ma))
    (n1 : starEach [a] X.env = (false, eval a X.env) :: starEach [] X.env := by rfl) (n2 : starEach [.Call (.Name "set" p2) [a] [] q] X.env = (false, eval (.Call (.Name "set" p2) [a] [] q) X.env) :: starEach [] X.env := by rfl) :
    PE X (.Call (.Name "sorted" p) [.Call (.Name "set" p2) [a] [] q] [] pos) (TN (mSortSet ma)) :=
  peW (pe_callB (cr_sortedSet hc) hg hm (by decide +kernel) (pa_cons (pe_callTy (cr_setI hc) hg2 hm2 (by decide +kernel) (pa_cons ha pa_nil n1) (he := n1)) pa_nil n2) (he := n2)) fun σ H Q ⟨O, r, ds, E, hm, k⟩ => by
    obtain ⟨ns, e1, hm⟩ := bind_some hm
    obtain ⟨es, e2, e1⟩ := bind_some e1
    obtain ⟨d0, e0, e2⟩ := bind_some e2
    split at hm
    · next hl =>
      cases hm
      have ee := ints_ok e1
      subst ee
      refine ⟨O, r, d0, E, e0, fun v H1 x1 q1 => ?_⟩
      have fin : ∀ p : Addr, v = .ref p → (SqL X.K H1 p (ns.map V.int) ∨ SqT X.K H1 p (ns.map V.int)) → rSetI X.K X.w [v] H1 fun x H2 => rSortedSet X.w [x] H2 Q := fun p hp hs => by
        subst hp
        refine ⟨p, ns, rfl, hs, hl, fun b c hcl hb => ⟨b, _, c, rfl, upd_same, by omega, fun ns' t h1 h2 h3 h4 => ?_⟩⟩
        have e5 : ns' = sortI ns := up_uniq h1 (sortI_up ns) fun j => by rw [h2 j, decide_eq_true_eq, sortI_mem]
        subst e5
        have x2 : Ext H1 (upd H1 b (SetO X.w b (fun j => decide (j ∈ ns)) c)) := Ext.new hb
        exact k t _ _ ((x1.trans x2).none_of h4) ((x1.trans x2).trans (Ext.new h4)) upd_same (new_lst h4 (dpa_of_ints _))
      rcases asSeq_ok e2 with e | e
      · subst e
        obtain ⟨p, vs, hv, h1, h2⟩ := q1.list
        rw [dpa_ints h2] at h1
        exact fin p hv (.inl (SqL.of h1))
      · subst e
        obtain ⟨p, vs, hv, h1, h2⟩ := q1.tup
        rw [dpa_ints h2] at h1
        exact fin p hv (.inr (SqT.of h1))
    · cases hm
end
end Ly
set_option Elab.async false
set_option linter.all false
set_option maxRecDepth 100000
set_option maxHeartbeats 4000000
namespace Ly
open PySem PySem.Spec PyProof.Rows L2
/-! what is walked, by its data -/
structure WalkD (O : List Addr) (J : It) (ds : List PyData) (H0 : Hp) : Prop where
  ex : ∃ (G : Hp → Prop) (Y : Nat → Hp → V → Hp → Prop), Walk J ds.length G Y ∧ (∀ O2 H, Ext (hide O H0) (hide O2 H) → G H) ∧
    ∀ i H x H' O2, i < ds.length → (∀ p ∈ O2, H p ≠ none) → Ext (hide O H0) (hide O2 H) → Y i H x H' → Ext H H' ∧ ∀ d, ds[i]? = some d → Rp (hide O2 H') x d
def TIt (m : ML) : TI := fun σ H R => ∃ O r ds, En O r σ H ∧ m r = some ds ∧ ∀ J H', Ext H H' → WalkD O J ds H' → R J H'
theorem piW {X : Cx} {tg e : Expr} {t t' : TI} (h : PI X tg e t) (w : ∀ σ H R, t' σ H R → t σ H R) : PI X tg e t' := ⟨fun pins s σ H R I q => h.run pins s σ H R I (w σ H R q)⟩
section
variable {O : List Addr} {H0 : Hp} {a : Addr} {vs ws : List V} {ds es : List PyData}
theorem wd_list {K : PySem.W.Frag} (h : hide O H0 a = some (.lst vs)) (hv : RpAll (hide O H0) vs ds) : WalkD O (Itl K a) ds H0 := by
  have w := walk_list (K := K) (a := a) (xs := vs)
  rw [dpa_len hv] at w
  exact ⟨_, _, w, fun O2 H x => SqL.of (hide_sub _ _ _ _ (x _ _ h)), fun i H x H' O2 hi hd e y => ⟨by rw [y.1]; exact Ext.refl _, fun d hd => by rw [y.1]; exact dpa_at (dpa_ext e hv) hd y.2⟩⟩
theorem wd_tup {K : PySem.W.Frag} (h : hide O H0 a = some (.tup vs)) (hv : RpAll (hide O H0) vs ds) : WalkD O (Itt K a) ds H0 := by
  have w := walk_tup (K := K) (a := a) (xs := vs)
  rw [dpa_len hv] at w
  exact ⟨_, _, w, fun O2 H x => SqT.of (hide_sub _ _ _ _ (x _ _ h)), fun i H x H' O2 hi hd e y => ⟨by rw [y.1]; exact Ext.refl _, fun d hd => by rw [y.1]; exact dpa_at (dpa_ext e hv) hd y.2⟩⟩
theorem rgD_len (i j : Int) : (rgD i j).length = (j - i).toNat := by unfold rgD; rw [List.length_map, List.length_range]
theorem wd_range {i j : Int} : WalkD O (Itr i (j - i).toNat) (rgD i j) H0 := by
  have w : Walk (Itr i (j - i).toNat) (rgD i j).length (fun _ => True) (YFn fun k => .int (i + k)) := by
    rw [rgD_len]
    exact walk_range
  refine ⟨_, _, w, fun _ _ _ => trivial, fun n H x H' O2 hn hd e y => ⟨by rw [y.1]; exact Ext.refl _, fun d hd => ?_⟩⟩
  rw [y.2]
  unfold rgD at hd
  rw [List.getElem?_map, List.getElem?_range (by rw [rgD_len] at hn; exact hn)] at hd
  cases hd
  exact .int _
/-- pairs made on the way -/
theorem pair_rp {H H' : Hp} {O2 : List Addr} {T : Addr} {x y : V} {d e : PyData} (hO : ∀ p ∈ O2, H p ≠ none) (hT : H T = none) (e1 : H' = upd H T (.tup [x, y])) (hx : Rp (hide O2 H) x d) (hy : Rp (hide O2 H) y e) : Ext H H' ∧ Rp (hide O2 H') (.ref T) (.tuple [d, e]) := by
  subst e1
  exact ⟨Ext.new hT, .tup (hide_some.mpr ⟨fun z => hO T z hT, upd_same⟩) (.cons (dp_ext (hide_ext (Ext.new hT)) hx) (.cons (dp_ext (hide_ext (Ext.new hT)) hy) .nil))⟩
def enumD : Nat → List PyData → List PyData
  | _, [] => []
  | n, d :: ds => .tuple [.int (n : Nat), d] :: enumD (n + 1) ds
theorem enumD_len : ∀ (n : Nat) (ds : List PyData), (enumD n ds).length = ds.length
  | _, [] => rfl
  | n, d :: ds => congrArg Nat.succ (enumD_len (n + 1) ds)
theorem enumD_get : ∀ (n : Nat) (ds : List PyData) (i : Nat), (enumD n ds)[i]? = ds[i]?.map fun d => .tuple [.int ((n + i : Nat) : Int), d]
  | _, [], _ => rfl
  | n, d :: ds, 0 => rfl
  | n, d :: ds, i + 1 => by
    show (enumD (n + 1) ds)[i]? = ds[i]?.map _
    rw [enumD_get (n + 1) ds i, show n + 1 + i = n + (i + 1) by omega]
theorem wd_enum {b : Bool} (h : hide O H0 a = some (sqO b vs)) (hv : RpAll (hide O H0) vs ds) : WalkD O (ItE b a) (enumD 0 ds) H0 := by
  have w := walk_enumK (b := b) (a := a) (xs := vs)
  rw [dpa_len hv, ← enumD_len 0 ds] at w
  refine ⟨_, _, w, fun O2 H x => hide_sub _ _ _ _ (x _ _ h), fun i H x H' O2 hi hO e ⟨T, u, y, h1, h2, h3, h4, h5⟩ => ?_⟩
  have q := fun d hd => pair_rp (d := .int (i : Nat)) (e := d) hO h2 h3 (by cases h4; exact .int _) (dpa_at (dpa_ext e hv) hd h5)
  have lt : i < ds.length := by rw [enumD_len] at hi; exact hi
  refine ⟨(q _ (List.getElem?_eq_getElem lt)).1, fun d hd => ?_⟩
  rw [enumD_get, List.getElem?_eq_getElem lt, Nat.zero_add] at hd
  cases hd
  rw [h1]
  exact (q _ (List.getElem?_eq_getElem lt)).2
def zipD : List PyData → List PyData → List PyData
  | d :: ds, e :: es => .tuple [d, e] :: zipD ds es
  | _, _ => []
theorem zipD_len : ∀ ds es : List PyData, (zipD ds es).length = min ds.length es.length
  | [], es => by simp [zipD]
  | _ :: _, [] => by simp [zipD]
  | d :: ds, e :: es => by
    show (zipD ds es).length + 1 = _
    rw [zipD_len ds es, List.length_cons, List.length_cons]
    omega
theorem zipD_get : ∀ (ds es : List PyData) (i : Nat) (d e : PyData), ds[i]? = some d → es[i]? = some e → (zipD ds es)[i]? = some (.tuple [d, e])
  | d :: ds, e :: es, 0, _, _, h1, h2 => by cases h1; cases h2; rfl
  | d :: ds, e :: es, i + 1, _, _, h1, h2 => zipD_get ds es i _ _ h1 h2
theorem wd_zip {b1 b2 : Bool} {a2 : Addr} (h : hide O H0 a = some (sqO b1 vs)) (h2 : hide O H0 a2 = some (sqO b2 ws)) (hv : RpAll (hide O H0) vs ds) (hw : RpAll (hide O H0) ws es) : WalkD O (ItZ b1 b2 a a2) (zipD ds es) H0 := by
  have w := walk_zipK (b1 := b1) (b2 := b2) (a1 := a) (a2 := a2) (xs := vs) (ys := ws)
  rw [dpa_len hv, dpa_len hw, ← zipD_len ds es] at w
  refine ⟨_, _, w, fun O2 H x => ⟨hide_sub _ _ _ _ (x _ _ h), hide_sub _ _ _ _ (x _ _ h2)⟩, fun i H x H' O2 hi hO e ⟨T, u, y, h1, h2, h3, h4, h5⟩ => ?_⟩
  rw [zipD_len] at hi
  have e1 := List.getElem?_eq_getElem (l := ds) (show i < ds.length by omega)
  have e2 := List.getElem?_eq_getElem (l := es) (show i < es.length by omega)
  have q := pair_rp hO h2 h3 (dpa_at (dpa_ext e hv) e1 h4) (dpa_at (dpa_ext e hw) e2 h5)
  refine ⟨q.1, fun d hd => ?_⟩
  rw [zipD_get ds es i _ _ e1 e2] at hd
  cases hd
  rw [h1]
  exact q.2
end
section
variable {X : Cx} {tg a b : Expr} {ma mb : ME} {pos : Pos}
/-- a list or a tuple, by its data -/
def mSeq (m : ME) : ML := fun r => (m r).bind asSeq
theorem di_seq (h : PE X a (TD ma)) : PI X tg a (TIt (mSeq ma)) := by
  refine ⟨fun pins s σ H R I q => ?_⟩
  obtain ⟨O, r, ds, E, hm, k⟩ := q
  obtain ⟨d0, e0, e1⟩ := bind_some hm
  refine thn (h.run pins s σ H (fun v H' => Ext H H' ∧ Rp (hide O H') v d0) I ⟨O, r, d0, E, e0, fun v H' x q => ⟨x, q⟩⟩) fun v s1 ⟨x, H1, I1, r1, x1, q1⟩ => ?_
  rcases asSeq_ok e1 with e | e
  · subst e
    obtain ⟨p, vs, rfl, h1, h2⟩ := dp_lst q1
    cases r1
    obtain ⟨its, rv, pl, _⟩ := I1.list (SqL.of (hide_sub _ _ _ _ h1))
    have f := I1.fpOk (Nat.le_refl _) (I1.hok.fresh (Nat.le_refl s1.heap.objs.size))
    exact wpAny_pyIter_list pl.isList ⟨s1.heap.objs.size, [s1.heap.objs.size], _, _, H1, rfl, I1.kept (t' := s1.toks) fun b o e => Heap.get?_push_of_some _ e, turn_list p _, ⟨_, Heap.get?_push_size _ rfl, rfl, rfl⟩, fun b hb => by rw [List.mem_singleton.mp hb]; exact f, k _ H1 x1 (wd_list h1 h2)⟩
  · subst e
    obtain ⟨p, vs, rfl, h1, h2⟩ := dp_tup q1
    cases r1
    obtain ⟨its, rv, pl, _⟩ := I1.tuple (SqT.of (hide_sub _ _ _ _ h1))
    have f := I1.fpOk (Nat.le_refl _) (I1.hok.fresh (Nat.le_refl s1.heap.objs.size))
    exact wpAny_pyIter_tuple (show s1.heap.IsTuple p its.toArray from pl) ⟨s1.heap.objs.size, [s1.heap.objs.size], _, _, H1, rfl, I1.kept (t' := s1.toks) fun b o e => Heap.get?_push_of_some _ e, turn_tuple p _, ⟨_, Heap.get?_push_size _ rfl, rfl, rfl⟩, fun b hb => by rw [List.mem_singleton.mp hb]; exact f, k _ H1 x1 (wd_tup h1 h2)⟩
theorem di_range1 {p : Pos} (hg : Gl X "range") (hm : X.mg "range" = none) (ha : PE X a (TD ma)) (n1 : starEach [a] X.env = (false, eval a X.env) :: starEach [] X.env := by rfl) : PI X tg (.Call (.Name "range" p) [a] [] pos) (TIt (mRg1 ma)) :=
  piW (pi_range1 hg hm (pa_cons ha pa_nil n1) n1) fun σ H R ⟨O, r, ds, E, hm, k⟩ => by
    obtain ⟨j, e1, hm⟩ := bind_some hm
    obtain ⟨c, e2⟩ := iteSome hm
    subst e2
    obtain ⟨b1, b2, b3, b4, b5⟩ := okRg_ok c
    exact ⟨O, r, _, E, iM_ok e1, fun v H1 x1 q1 => ⟨j, by rw [dp_int q1], b3, b4, k _ H1 x1 (by
      have w := wd_range (O := O) (H0 := H1) (i := 0) (j := j)
      rw [Int.sub_zero] at w
      exact w)⟩⟩
theorem di_range2 {p : Pos} (hg : Gl X "range") (hm : X.mg "range" = none) (ha : PE X a (TD ma)) (hb : PE X b (TD mb)) (n1 : starEach [a, b] X.env = (false, eval a X.env) :: starEach [b] X.env := by rfl) (n2 : starEach [b] X.env = (false, eval b X.env) :: starEach [] X.env := by rfl) :
    PI X tg (.Call (.Name "range" p) [a, b] [] pos) (TIt (mRg2 ma mb)) :=
  piW (pi_range2 hg hm (pa_cons ha (pa_cons hb pa_nil n2) n1) (by rw [n1, n2]; rfl) (by rw [n2]; rfl)) fun σ H R ⟨O, r, ds, E, hm, k⟩ => by
    obtain ⟨i, e1, hm⟩ := bind_some hm
    obtain ⟨j, e2, hm⟩ := bind_some hm
    obtain ⟨c, e3⟩ := iteSome hm
    subst e3
    obtain ⟨b1, b2, b3, b4, b5⟩ := okRg_ok c
    exact ⟨O, r, _, E, iM_ok e1, fun v H1 x1 q1 => ⟨O, r, _, E.ext x1, iM_ok e2, fun w H2 x2 q2 => ⟨i, j, by rw [dp_int q1, dp_int q2], ⟨b1, b2, b3, b4⟩, k _ H2 (x1.trans x2) wd_range⟩⟩⟩
theorem seq_sq {O : List Addr} {H : Hp} {v : V} {d : PyData} {ds : List PyData} (h : Rp (hide O H) v d) (e : asSeq d = some ds) : ∃ p b vs, v = .ref p ∧ hide O H p = some (sqO b vs) ∧ RpAll (hide O H) vs ds := by
  rcases asSeq_ok e with e | e
  · subst e
    obtain ⟨p, vs, rfl, h1, h2⟩ := dp_lst h
    exact ⟨p, true, vs, rfl, h1, h2⟩
  · subst e
    obtain ⟨p, vs, rfl, h1, h2⟩ := dp_tup h
    exact ⟨p, false, vs, rfl, h1, h2⟩
def mEnum (m : ME) : ML := fun r => ((m r).bind asSeq).map (enumD 0)
def mZip (m s : ME) : ML := fun r => ((m r).bind asSeq).bind fun ds => ((s r).bind asSeq).map (zipD ds)
variable {elts : List Expr} {kk : Nat} {tpos : Pos}
theorem di_enum {p : Pos} (hg : Gl X "enumerate") (hm : X.mg "enumerate" = none) (ha : PE X a (TD ma)) (n1 : starEach [a] X.env = (false, eval a X.env) :: starEach [] X.env := by rfl) : PI X (.Tuple elts kk tpos) (.Call (.Name "enumerate" p) [a] [] pos) (TIt (mEnum ma)) :=
  piW (pi_enumK hg hm (pa_cons ha pa_nil n1) n1) fun σ H R ⟨O, r, ds, E, hm, k⟩ => by
    obtain ⟨xs, e1, hm⟩ := map_some hm
    obtain ⟨d0, e0, e1⟩ := bind_some e1
    subst hm
    refine ⟨O, r, d0, E, e0, fun v H1 x1 q1 => ?_⟩
    obtain ⟨p, b, vs, rfl, h1, h2⟩ := seq_sq q1 e1
    exact ⟨p, b, vs, rfl, hide_sub _ _ _ _ h1, k _ H1 x1 (wd_enum h1 h2)⟩
theorem di_zip {p : Pos} (hg : Gl X "zip") (hm : X.mg "zip" = none) (ha : PE X a (TD ma)) (hb : PE X b (TD mb)) (n1 : starEach [a, b] X.env = (false, eval a X.env) :: starEach [b] X.env := by rfl) (n2 : starEach [b] X.env = (false, eval b X.env) :: starEach [] X.env := by rfl)
    (n3 : (backTo pos (starEach [b] X.env)).any (·.1) = false := by rfl) : PI X (.Tuple elts kk tpos) (.Call (.Name "zip" p) [a, b] [] pos) (TIt (mZip ma mb)) :=
  piW (pi_zipK hg hm (pa_cons ha (pa_cons hb pa_nil n2) n1) n1 n3) fun σ H R ⟨O, r, ds, E, hm, k⟩ => by
    obtain ⟨xs, e1, hm⟩ := bind_some hm
    obtain ⟨d0, e0, e1⟩ := bind_some e1
    obtain ⟨ys, e2, hm⟩ := map_some hm
    obtain ⟨d2, e3, e2⟩ := bind_some e2
    subst hm
    refine ⟨O, r, d0, E, e0, fun v H1 x1 q1 => ⟨O, r, d2, E.ext x1, e3, fun w H2 x2 q2 => ?_⟩⟩
    obtain ⟨p, b1, vs, rfl, h1, h2⟩ := seq_sq (dp_ext (hide_ext x2) q1) e1
    obtain ⟨q, b2, ws, rfl, h3, h4⟩ := seq_sq q2 e2
    exact ⟨p, q, b1, b2, vs, ws, rfl, hide_sub _ _ _ _ h1, hide_sub _ _ _ _ h3, k _ H2 (x1.trans x2) (wd_zip h1 h3 h2 h4)⟩
end
/-! targets: a name, a pair of names -/
inductive Tg where
  | nm (i : Nat)
  | pr (i j : Nat)
def Tg.sl : Tg → List Nat
  | .nm i => [i]
  | .pr i j => [i, j]
def setT : Tg → PyData → List Sl → Option (List Sl)
  | .nm i, d, r => some (r.set i (.val d))
  | .pr i j, .tuple [d, e], r => some ((r.set i (.val d)).set j (.val e))
  | .pr _ _, _, _ => none
def gT (K : PySem.W.Frag) : Tg → TG
  | .nm i => gName i
  | .pr i j => gTup K 2 (gCons (gName i) (gCons (gName j) gNil))
theorem wipe_set (σ : L2.St) (i : Nat) (x : Option V) : ∀ vs : List Nat, (i ∈ vs → wipe (σ.set i x) vs = wipe σ vs) ∧ (i ∉ vs → wipe (σ.set i x) vs = (wipe σ vs).set i x)
  | [] => ⟨fun h => absurd h (by simp), fun _ => rfl⟩
  | v :: vs => by
    obtain ⟨h1, h2⟩ := wipe_set σ i x vs
    constructor
    · intro h
      show (wipe (σ.set i x) vs).set v none = (wipe σ vs).set v none
      by_cases hv : i ∈ vs
      · rw [h1 hv]
      · rcases List.mem_cons.mp h with e | e
        · subst e; rw [h2 hv, List.set_set]
        · exact absurd e hv
    · intro h
      simp only [List.mem_cons, not_or] at h
      show (wipe (σ.set i x) vs).set v none = ((wipe σ vs).set v none).set i x
      rw [h2 h.2, List.set_comm _ _ (fun e => h.1 e)]
theorem wipe_wipe (σ : L2.St) : ∀ vs us : List Nat, (∀ i ∈ us, i ∈ vs) → wipe (wipe σ us) vs = wipe σ vs
  | vs, [], _ => rfl
  | vs, u :: us, h => by
    show wipe ((wipe σ us).set u none) vs = wipe σ vs
    rw [(wipe_set _ u none vs).1 (h u (List.mem_cons_self ..)), wipe_wipe σ vs us fun i hi => h i (List.mem_cons_of_mem _ hi)]
/-- no list of one's own stands at p -/
def Free (p : Addr) (r : List Sl) (σ : L2.St) : Prop := ∀ (j : Nat) es, r[j]? = some (.own es) → σ[j]? ≠ some (some (.ref p))
theorem Free.of {O : List Addr} {r : List Sl} {σ : L2.St} {H : Hp} {p : Addr} (E : En O r σ H) (h : H p = none) : Free p r σ := fun j es e z => by
  obtain ⟨q, vs, q1, q2, q3, _⟩ := E.own e
  rw [z] at q1
  cases q1
  rw [h] at q3
  cases q3
theorem Free.set {p : Addr} {r : List Sl} {σ : L2.St} (h : Free p r σ) (i : Nat) (s : Sl) (x : Option V) (hs : ∀ es, s ≠ .own es) : Free p (r.set i s) (σ.set i x) := fun j es e z => by
  rcases getSet e with ⟨_, q, _⟩ | ⟨ne, e1⟩
  · exact hs es q.symm
  · rw [List.getElem?_set_ne ne] at z
    exact h j es e1 z
theorem Free.wipe {p : Addr} {r : List Sl} {σ : L2.St} (h : Free p r σ) : ∀ vs : List Nat, Free p (wipeR r vs) (L2.wipe σ vs)
  | [] => h
  | v :: vs => (Free.wipe h vs).set v .no none fun es z => by cases z
theorem En.mut {O : List Addr} {r : List Sl} {σ : L2.St} {H : Hp} {p : Addr} {o : HO} (E : En O r σ H) (hp : p ∈ O) (f : Free p r σ) : En O r σ (upd H p o) := by
  refine ⟨E.len, fun i x s h1 h2 => ?_, fun q hq z => ?_, E.inj⟩
  · have q := E.sl i x s h1 h2
    cases s with
    | no => trivial
    | pt a => exact q
    | val d => obtain ⟨v, a1, a2⟩ := q; exact ⟨v, a1, by rw [hide_mut hp]; exact a2⟩
    | own ds =>
      obtain ⟨q, vs, a1, a2, a3, a4⟩ := q
      subst a1
      have ne : q ≠ p := fun z => f i ds h2 (by rw [h1, z])
      exact ⟨q, vs, rfl, a2, by rw [upd_ne ne]; exact a3, by rw [hide_mut hp]; exact a4⟩
  · by_cases e : q = p
    · subst e; rw [upd_same] at z; cases z
    · rw [upd_ne e] at z; exact E.dom q hq z
theorem gT_ok {K : PySem.W.Frag} {t : Tg} {O : List Addr} {r r' : List Sl} {σ : L2.St} {H : Hp} {v : V} {d : PyData} {Q : L2.St → Hp → Prop} (E : En O r σ H) (hv : Rp (hide O H) v d) (hs : setT t d r = some r')
    (k : ∀ σ', En O r' σ' H → (∀ vs, (∀ i ∈ t.sl, i ∈ vs) → wipe σ' vs = wipe σ vs) → (∀ p, Free p r σ → Free p r' σ') → Q σ' H) : gT K t v σ H Q := by
  cases t with
  | nm i =>
    cases hs
    exact k _ (E.setVal i hv) (fun vs h => (wipe_set σ i _ vs).1 (h i (by simp [Tg.sl]))) fun p f => f.set i _ _ fun es z => by cases z
  | pr i j =>
    unfold setT at hs
    split at hs
    · next h => cases h
    · next i' j' d1 e1 h =>
      cases h
      cases hs
      obtain ⟨a, vs, rfl, h1, h2⟩ := dp_tup hv
      cases h2 with
      | cons r1 t1 =>
        cases t1 with
        | cons r2 t2 =>
          cases t2
          refine ⟨a, _, rfl, SqT.of (hide_sub _ _ _ _ h1), rfl, _, _, rfl, _, _, rfl, rfl, ?_⟩
          exact k _ ((E.setVal i r1).setVal j r2) (fun vs h => by
            rw [(wipe_set _ j _ vs).1 (h j (by simp [Tg.sl])), (wipe_set _ i _ vs).1 (h i (by simp [Tg.sl]))]) fun p f => (f.set i _ _ (fun es z => by cases z)).set j _ _ fun es z => by cases z
    · cases hs
end Ly
set_option Elab.async false
set_option linter.all false
set_option maxRecDepth 100000
set_option maxHeartbeats 4000000
namespace Ly
open PySem PySem.Spec PyProof.Rows L2
/-! comprehensions -/
/-- walking by an invariant of the turn and the heap, whatever a turn asks -/
theorem lp_it {J : It} {n : Nat} {G : Hp → Prop} {Y : Nat → Hp → V → Hp → Prop} (w : Walk J n G Y) {H0 : Hp} {Stop : Hp → Prop} {Step : (Hp → Prop) → V → Hp → Prop} (Pv : Nat → Hp → Prop) (h0 : Pv 0 H0) (hG : ∀ i H, i ≤ n → Pv i H → G H)
    (hs : ∀ i x H H', i < n → Pv i H → Y i H x H' → Step (Pv (i + 1)) x H') (hd : ∀ H, Pv n H → Stop H) :
    ∃ W : Nat → Nat → Hp → Prop, (∃ m, W 0 m H0) ∧ ∀ i m H, W i m H → (J.stop i H ∧ Stop H) ∨ (J.go i H ∧ ∃ Nx : Hp → Prop, (∀ H', Nx H' → ∃ m', m' < m ∧ W (i + 1) m' H') ∧ ∀ x H', J.yld i H x H' → Step Nx x H') := by
  refine ⟨fun i m H => m = n - i ∧ i ≤ n ∧ Pv i H, ⟨n, rfl, Nat.zero_le _, h0⟩, fun i m H hw => ?_⟩
  obtain ⟨rfl, hi, p⟩ := hw
  have q := hG i H hi p
  rcases Nat.lt_or_eq_of_le hi with lt | e
  · exact .inr ⟨w.goes i H lt q, Pv (i + 1), fun H' p' => ⟨n - (i + 1), by omega, rfl, lt, p'⟩, fun x H' y => hs i x H H' lt p (w.yields i H x H' lt q y)⟩
  · subst e
    exact .inl ⟨w.stops H q, hd H p⟩
def mYes : MB := fun _ => some true
theorem dp_nil {X : Cx} : PTs X [] (TB mYes) := ⟨fun pins s σ H Q I ⟨O, r, b, E, hm, k⟩ => by
  cases hm
  exact pts_nil.run pins s σ H Q I (k H (Ext.refl H))⟩
theorem dp_one {X : Cx} {c : Expr} {t : MB} (h : PT X c (TB t)) : PTs X [c] (TB t) := pts_one h
def lcGo (tg : Tg) (mt : MB) (me : ME) (r : List Sl) : List PyData → Option (List PyData)
  | [] => some []
  | d :: ds => (setT tg d r).bind fun r1 => (mt r1).bind fun b => if b then (me r1).bind fun e => (lcGo tg mt me r ds).map fun es => e :: es else lcGo tg mt me r ds
def mLc (mi : ML) (tg : Tg) (mt : MB) (me : ME) (vs : List Nat) : ML := fun r => (mi r).bind fun ds => (lcGo tg mt me (wipeR r vs) ds).bind fun out => if okSz out then some out else none
/-- the state of a list that grows at D: done stands there, rest is to come -/
def Grow (H1 : Hp) (O : List Addr) (D : Addr) (out : List PyData) (rest : List PyData) (H : Hp) : Prop :=
  Ext H1 H ∧ ∃ ys done, H D = some (.lst ys) ∧ RpAll (hide (D :: O) H) ys done ∧ done ++ rest = out
theorem Grow.add {H1 H H' : Hp} {O : List Addr} {D : Addr} {out rest : List PyData} {e : PyData} {y : V} (h : Grow H1 O D out (e :: rest) H) (hD : H1 D = none) (x : Ext H H') (hz : out.length ≤ 100000) (hy : Rp (hide (D :: O) H') y e) :
    ∃ acc, H' D = some (.lst acc) ∧ acc.length < sizeLine ∧ Grow H1 O D out rest (upd H' D (.lst (acc ++ [y]))) := by
  obtain ⟨x1, ys, done, h1, h2, h3⟩ := h
  refine ⟨ys, x _ _ h1, ?_, (x1.trans x).mut hD, ys ++ [y], done ++ [e], upd_same, ?_, by rw [List.append_assoc]; exact h3⟩
  · rw [dpa_len h2]
    refine szlt ?_
    rw [← h3, List.length_append, List.length_cons] at hz
    omega
  · rw [hide_mut (List.mem_cons_self ..)]
    exact dpa_app (dpa_ext (hide_ext x) h2) (.cons hy .nil)
theorem Grow.ext {H1 H H' : Hp} {O : List Addr} {D : Addr} {out rest : List PyData} (h : Grow H1 O D out rest H) (x : Ext H H') : Grow H1 O D out rest H' := by
  obtain ⟨x1, ys, done, h1, h2, h3⟩ := h
  exact ⟨x1.trans x, ys, done, x _ _ h1, dpa_ext (hide_ext x) h2, h3⟩
theorem drop_cons {α : Type} {l : List α} {i : Nat} (h : i < l.length) : ∃ d, l[i]? = some d ∧ l.drop i = d :: l.drop (i + 1) := ⟨l[i], List.getElem?_eq_getElem h, List.drop_eq_getElem_cons h⟩
theorem lc_read {K : PySem.W.Frag} {mi : ML} {tg : Tg} {mt : MB} {me : ME} {vs : List Nat} (hsl : ∀ i ∈ tg.sl, i ∈ vs) {σ : L2.St} {H : Hp} {Q : VK} (h : TN (mLc mi tg mt me vs) σ H Q) : tLc (TIt mi) (gT K tg) (TB mt) (TD me) vs σ H Q := by
  obtain ⟨O, r, out, E, hm, k⟩ := h
  obtain ⟨ds, e1, hm⟩ := bind_some hm
  obtain ⟨out', e2, hm⟩ := bind_some hm
  obtain ⟨c, e3⟩ := iteSome hm
  subst e3
  have hz := okSz_ok c
  refine ⟨O, r, ds, E, e1, fun J H1 x1 wd => fun D hD => ?_⟩
  obtain ⟨G, Y, w, wG, wY⟩ := wd.ex
  refine lp_it w (fun i H => ∃ rest, lcGo tg mt me (wipeR r vs) (ds.drop i) = some rest ∧ Grow H1 O D out' rest H) ⟨out', e2, Ext.new hD, [], [], upd_same, .nil, rfl⟩ (fun i H _ p => by
    obtain ⟨_, _, g⟩ := p
    exact wG O H (hide_ext g.1)) (fun i x H H' hi p y => ?_) fun H p => ?_
  · obtain ⟨rest, hr, g⟩ := p
    obtain ⟨d, hd, hdrop⟩ := drop_cons hi
    rw [hdrop] at hr
    obtain ⟨r1, s1, hr⟩ := bind_some hr
    obtain ⟨b, s2, hr⟩ := bind_some hr
    have dD : H D ≠ none := by obtain ⟨_, ys, _, q, _⟩ := g; rw [q]; exact fun z => nomatch z
    have dO : ∀ p ∈ D :: O, H p ≠ none := fun p hp z => by
      rcases List.mem_cons.mp hp with rfl | hp
      · exact dD z
      · exact E.dom p hp (x1.none_of (g.1.none_of z))
    obtain ⟨y1, y2⟩ := wY i H x H' (D :: O) hi dO (hide_ext_cons g.1 hD) y
    have E1 : En (D :: O) (wipeR r vs) (wipe σ vs) H' := ((E.ext x1).more (g.1.trans y1) hD fun z => dD (y1.none_of z)).wipe vs
    refine gT_ok E1 (y2 d hd) s1 fun σ2 E2 hw fr => ⟨by rw [hw vs hsl, wipe_wipe σ vs vs fun _ h => h], D :: O, r1, b, E2, s2, fun H3 x3 => ?_⟩
    have g3 := (g.ext y1).ext x3
    cases b with
    | false => exact ⟨rest, hr, g3⟩
    | true =>
      obtain ⟨e, s3, hr⟩ := bind_some hr
      obtain ⟨rest', s4, hr⟩ := map_some hr
      subst hr
      exact ⟨D :: O, r1, e, E2.ext x3, s3, fun v H4 x4 q4 => by
        obtain ⟨acc, a1, a2, a3⟩ := g3.add hD x4 hz q4
        exact ⟨acc, a1, a2, rest', s4, a3⟩⟩
  · obtain ⟨rest, hr, g⟩ := p
    rw [List.drop_length] at hr
    cases hr
    obtain ⟨x2, ys, done, h1, h2, h3⟩ := g
    rw [List.append_nil] at h3
    subst h3
    exact k D ys H (x1.none_of hD) (x1.trans x2) h1 h2
section
variable {X : Cx} {elt tg iter tg1 iter1 : Expr} {ifs ifs1 : List Expr} {scope : Scope} {own : List (PySem.Str × Nat)} {pos spos : Pos} {mi mi1 : ML} {t t1 : Tg} {mt mt1 : MB} {me : ME}
abbrev Blk (X : Cx) (scope : Scope) (Pr : Cx → Prop) : Prop := ∀ (s : Shared) (H : Hp) (C : Addr) (cl : List (PySem.Str × Addr)) (fp : List Addr), Pr (X.blk s H scope (compEnvC scope cl C X.env) fp)
theorem dn_lc (hc : X.calm = true) (hN : X.N.Nodup) (hi : PI X tg iter (TIt mi)) (ok : BlkOk X.N X.env.scope scope own) (hg : Blk X scope fun Z => PG Z tg (gT X.K t)) (ht : Blk X scope fun Z => PTs Z ifs (TB mt)) (he : Blk X scope fun Z => PE Z elt (TD me)) (hsl : ∀ i ∈ t.sl, i ∈ own.map (·.2))
    (hs : ∀ x, foldedSetIterable iter X.env x = pure x := by intro _; rfl) : PE X (.ListComp elt [⟨tg, iter, ifs, 0⟩] scope pos) (TN (mLc mi t mt me (own.map (·.2)))) :=
  peW (pe_lc hc hN hi ok hg ht he hs) fun σ H Q h => lc_read hsl h
theorem psW {st : Stmt} {u u' : TS} (h : PS X st u) (w : ∀ D σ H, u' D σ H → u D σ H) : PS X st u' := ⟨fun pins s σ H D I q => h.run pins s σ H D I (w D σ H q)⟩
/-- name = [..], the name a local on the same line: by the fresh list's reading -/
theorem dx_setLc {i : Nat} {y : PySem.Str} {py : Pos} (hc : X.calm = true) (hN : X.N.Nodup) (hy : X.N[i]? = some y) (hyl : X.env.scope.names.lookup y = some .local)
    (hsw : swapsWith (.ListComp elt [⟨tg, iter, ifs, 0⟩] scope pos) (some (.Name y py)) spos.line X.env = pure true) (hi : PI X tg iter (TIt mi)) (ok : BlkOk X.N X.env.scope scope own) (hg : Blk X scope fun Z => PG Z tg (gT X.K t)) (ht : Blk X scope fun Z => PTs Z ifs (TB mt)) (he : Blk X scope fun Z => PE Z elt (TD me)) (hsl : ∀ i ∈ t.sl, i ∈ own.map (·.2))
    (hs : ∀ x, foldedSetIterable iter X.env x = pure x := by intro _; rfl) : PS X (.Assign [.Name y py] (.ListComp elt [⟨tg, iter, ifs, 0⟩] scope pos) spos) (tAsg (TN (mLc mi t mt me (own.map (·.2)))) (gName i)) :=
  psW (ps_setLc hc hN hy hyl hsw hi ok hg ht he hs) fun D σ H h => lc_read (K := X.K) hsl h
/-! two clauses -/
def lc2Go (tg : Tg) (mi1 : ML) (tg1 : Tg) (mt1 : MB) (me : ME) (vs1 : List Nat) (r : List Sl) : List PyData → Option (List PyData)
  | [] => some []
  | d :: ds => (setT tg d r).bind fun r1 => (mi1 r1).bind fun es => (lcGo tg1 mt1 me (wipeR r1 vs1) es).bind fun xs => (lc2Go tg mi1 tg1 mt1 me vs1 r ds).map fun ys => xs ++ ys
def mLc2 (mi : ML) (tg : Tg) (mi1 : ML) (tg1 : Tg) (mt1 : MB) (me : ME) (vs vs1 : List Nat) : ML := fun r => (mi r).bind fun ds => (lc2Go tg mi1 tg1 mt1 me vs1 (wipeR r vs) ds).bind fun out => if okSz out then some out else none
theorem lc2_read {K : PySem.W.Frag} {vs vs1 : List Nat} (hsl : ∀ i ∈ t.sl, i ∈ vs) (hsl1 : ∀ i ∈ t1.sl, i ∈ vs1) {σ : L2.St} {H : Hp} {Q : VK} (h : TN (mLc2 mi t mi1 t1 mt1 me vs vs1) σ H Q) : tLc2 (TIt mi) (gT K t) (TB mYes) (TIt mi1) (gT K t1) (TB mt1) (TD me) vs vs1 σ H Q := by
  obtain ⟨O, r, out, E, hm, k⟩ := h
  obtain ⟨ds, e1, hm⟩ := bind_some hm
  obtain ⟨out', e2, hm⟩ := bind_some hm
  obtain ⟨c, e3⟩ := iteSome hm
  subst e3
  have hz := okSz_ok c
  refine ⟨O, r, ds, E, e1, fun J H1 x1 wd => fun D hD => ?_⟩
  obtain ⟨G, Y, w, wG, wY⟩ := wd.ex
  have dOf : ∀ {rest H}, Grow H1 O D out' rest H → ∀ p ∈ D :: O, H p ≠ none := fun {rest H} g p hp z => by
    rcases List.mem_cons.mp hp with rfl | hp
    · obtain ⟨_, ys, _, q, _⟩ := g
      rw [q] at z; cases z
    · exact E.dom p hp (x1.none_of (g.1.none_of z))
  refine lp_it w (fun i H => ∃ rest, lc2Go t mi1 t1 mt1 me vs1 (wipeR r vs) (ds.drop i) = some rest ∧ Grow H1 O D out' rest H) ⟨out', e2, Ext.new hD, [], [], upd_same, .nil, rfl⟩ (fun i H _ p => by
    obtain ⟨_, _, g⟩ := p
    exact wG O H (hide_ext g.1)) (fun i x H H' hi p y => ?_) fun H p => ?_
  · obtain ⟨rest, hr, g⟩ := p
    obtain ⟨d, hd, hdrop⟩ := drop_cons hi
    rw [hdrop] at hr
    obtain ⟨r1, s1, hr⟩ := bind_some hr
    obtain ⟨es, s2, hr⟩ := bind_some hr
    obtain ⟨xs, s3, hr⟩ := bind_some hr
    obtain ⟨rest', s4, hr⟩ := map_some hr
    subst hr
    have dO := dOf g
    obtain ⟨y1, y2⟩ := wY i H x H' (D :: O) hi dO (hide_ext_cons g.1 hD) y
    have E1 : En (D :: O) (wipeR r vs) (wipe σ vs) H' := ((E.ext x1).more (g.1.trans y1) hD fun z => dO D (List.mem_cons_self ..) (y1.none_of z)).wipe vs
    refine gT_ok E1 (y2 d hd) s1 fun σ2 E2 hw fr => ⟨by rw [hw vs hsl, wipe_wipe σ vs vs fun _ h => h], D :: O, r1, true, E2, rfl, fun H3 x3 => ?_⟩
    show TIt mi1 σ2 H3 _
    refine ⟨D :: O, r1, es, E2.ext x3, s2, fun J1 H4 x4 wd1 => ?_⟩
    obtain ⟨G1, Y1, w1, wG1, wY1⟩ := wd1.ex
    have E4 := (E2.ext x3).ext x4
    have g4 := ((g.ext y1).ext x3).ext x4
    have f2 : Free D r1 σ2 := fr D ((Free.of (E.ext x1) hD).wipe vs)
    -- the second loop, from H4
    refine lp_it w1 (fun j H => ∃ rest1, lcGo t1 mt1 me (wipeR r1 vs1) (es.drop j) = some rest1 ∧ Grow H1 O D out' (rest1 ++ rest') H ∧ Ext (hide (D :: O) H4) (hide (D :: O) H) ∧ En (D :: O) r1 σ2 H) ⟨xs, s3, g4, Ext.refl _, E4⟩ (fun j H _ p => by
      obtain ⟨_, _, _, g, _⟩ := p
      exact wG1 (D :: O) H g) (fun j x H H' hj p y => ?_) fun H p => ?_
    · obtain ⟨rest1, hr1, gg, gx, E5⟩ := p
      obtain ⟨d1, hd1, hdrop1⟩ := drop_cons hj
      rw [hdrop1] at hr1
      obtain ⟨r2, u1, hr1⟩ := bind_some hr1
      obtain ⟨b, u2, hr1⟩ := bind_some hr1
      obtain ⟨z1, z2⟩ := wY1 j H x H' (D :: O) hj (dOf gg) gx y
      have E6 := E5.ext z1
      refine gT_ok (E6.wipe vs1) (z2 d1 hd1) u1 fun σ3 E7 hw1 fr1 => ⟨by rw [hw1 vs1 hsl1, wipe_wipe σ2 vs1 vs1 fun _ h => h], D :: O, r2, b, E7, u2, fun H6 x6 => ?_⟩
      have g6 := (gg.ext z1).ext x6
      cases b with
      | false => exact ⟨rest1, hr1, g6, gx.trans (hide_ext (z1.trans x6)), E6.ext x6⟩
      | true =>
        obtain ⟨e, u3, hr1⟩ := bind_some hr1
        obtain ⟨rest2, u4, hr1⟩ := map_some hr1
        subst hr1
        refine ⟨D :: O, r2, e, E7.ext x6, u3, fun v H7 x7 q7 => ?_⟩
        obtain ⟨acc, a1, a2, a3⟩ := Grow.add (rest := rest2 ++ rest') g6 hD x7 hz q7
        exact ⟨acc, a1, a2, rest2, u4, a3, by rw [hide_mut (List.mem_cons_self ..)]; exact gx.trans (hide_ext ((z1.trans x6).trans x7)), ((E6.ext x6).ext x7).mut (List.mem_cons_self ..) f2⟩
    · obtain ⟨rest1, hr1, gg, _, _⟩ := p
      rw [List.drop_length] at hr1
      cases hr1
      exact ⟨rest', s4, gg⟩
  · obtain ⟨rest, hr, g⟩ := p
    rw [List.drop_length] at hr
    cases hr
    obtain ⟨x2, ys, done, h1, h2, h3⟩ := g
    rw [List.append_nil] at h3
    subst h3
    exact k D ys H (x1.none_of hD) (x1.trans x2) h1 h2
theorem dn_lc2 {vs1 : List Nat} (hc : X.calm = true) (hN : X.N.Nodup) (hi : PI X tg iter (TIt mi)) (ok : BlkOk X.N X.env.scope scope own) (hv : ∀ i ∈ vs1, i ∈ own.map (·.2)) (hg : Blk X scope fun Z => PG Z tg (gT X.K t)) (hi1 : Blk X scope fun Z => PI Z tg1 iter1 (TIt mi1)) (hg1 : Blk X scope fun Z => PG Z tg1 (gT X.K t1))
    (ht1 : Blk X scope fun Z => PTs Z ifs1 (TB mt1)) (he : Blk X scope fun Z => PE Z elt (TD me)) (hsl : ∀ i ∈ t.sl, i ∈ own.map (·.2)) (hsl1 : ∀ i ∈ t1.sl, i ∈ vs1)
    (hs : ∀ x, foldedSetIterable iter X.env x = pure x := by intro _; rfl) (hs1 : ∀ env x, foldedSetIterable iter1 env x = pure x := by intro _ _; rfl) :
    PE X (.ListComp elt [⟨tg, iter, [], 0⟩, ⟨tg1, iter1, ifs1, 0⟩] scope pos) (TN (mLc2 mi t mi1 t1 mt1 me (own.map (·.2)) vs1)) :=
  peW (pe_lc2 hc hN hi ok hv hg (fun _ _ _ _ _ => dp_nil) hi1 hg1 ht1 he hs hs1) fun σ H Q h => lc2_read hsl hsl1 h
theorem dx_setLc2 {i : Nat} {y : PySem.Str} {py : Pos} {vs1 : List Nat} (hc : X.calm = true) (hN : X.N.Nodup) (hy : X.N[i]? = some y) (hyl : X.env.scope.names.lookup y = some .local)
    (hsw : swapsWith (.ListComp elt [⟨tg, iter, [], 0⟩, ⟨tg1, iter1, ifs1, 0⟩] scope pos) (some (.Name y py)) spos.line X.env = pure true) (hi : PI X tg iter (TIt mi)) (ok : BlkOk X.N X.env.scope scope own) (hv : ∀ i ∈ vs1, i ∈ own.map (·.2)) (hg : Blk X scope fun Z => PG Z tg (gT X.K t)) (hi1 : Blk X scope fun Z => PI Z tg1 iter1 (TIt mi1)) (hg1 : Blk X scope fun Z => PG Z tg1 (gT X.K t1))
    (ht1 : Blk X scope fun Z => PTs Z ifs1 (TB mt1)) (he : Blk X scope fun Z => PE Z elt (TD me)) (hsl : ∀ i ∈ t.sl, i ∈ own.map (·.2)) (hsl1 : ∀ i ∈ t1.sl, i ∈ vs1)
    (hs : ∀ x, foldedSetIterable iter X.env x = pure x := by intro _; rfl) (hs1 : ∀ env x, foldedSetIterable iter1 env x = pure x := by intro _ _; rfl) :
    PS X (.Assign [.Name y py] (.ListComp elt [⟨tg, iter, [], 0⟩, ⟨tg1, iter1, ifs1, 0⟩] scope pos) spos) (tAsg (TN (mLc2 mi t mi1 t1 mt1 me (own.map (·.2)) vs1)) (gName i)) :=
  psW (ps_setLc2 hc hN hy hyl hsw hi ok hv hg (fun _ _ _ _ _ => dp_nil) hi1 hg1 ht1 he hs hs1) fun D σ H h => lc2_read (K := X.K) hsl hsl1 h
end
end Ly
set_option Elab.async false
set_option linter.all false
set_option maxRecDepth 100000
set_option maxHeartbeats 4000000
namespace Ly
open PySem PySem.Spec PyProof.Rows L2
/-! statements: the slots, over what stood when the def began (B) and what is its callers' own (O0) -/
structure St2 (B : Hp) (O0 O : List Addr) (r : List Sl) (σ : L2.St) (H : Hp) : Prop where
  ex : Ext B H
  en : En O r σ H
  sub : ∀ p ∈ O0, p ∈ O
  fr : ∀ p ∈ O, p ∈ O0 ∨ B p = none
  nw : ∀ (j : Nat) es p, r[j]? = some (.own es) → σ[j]? = some (some (.ref p)) → p ∉ O0
inductive Out where
  | nx (r : List Sl)
  | rt (d : PyData)
abbrev MS := List Sl → Option Out
def Post (D : Ends) (B : Hp) (O0 : List Addr) : Out → Prop
  | .nx r => ∀ O σ H, St2 B O0 O r σ H → D.nx σ H
  | .rt d => ∀ v H, Ext B H → Rp (hide O0 H) v d → D.rt v H
def TZ (m : MS) : TS := fun D σ H => ∃ B O0 O r out, St2 B O0 O r σ H ∧ m r = some out ∧ Post D B O0 out
section
variable {B : Hp} {O0 O : List Addr} {r : List Sl} {σ : L2.St} {H H' : Hp}
theorem St2.ext (S : St2 B O0 O r σ H) (x : Ext H H') : St2 B O0 O r σ H' := ⟨S.ex.trans x, S.en.ext x, S.sub, S.fr, S.nw⟩
theorem St2.setVal (S : St2 B O0 O r σ H) (i : Nat) {v : V} {d : PyData} (q : Rp (hide O H) v d) : St2 B O0 O (r.set i (.val d)) (σ.set i (some v)) H :=
  ⟨S.ex, S.en.setVal i q, S.sub, S.fr, fun j es p h1 h2 => by
    rcases getSet h1 with ⟨_, z, _⟩ | ⟨ne, e1⟩
    · cases z
    · rw [List.getElem?_set_ne ne] at h2
      exact S.nw j es p e1 h2⟩
theorem St2.setOwn (S : St2 B O0 O r σ H) (i : Nat) {p : Addr} {vs : List V} {ds : List PyData} (hp : H p = none) (x : Ext H H') (h : H' p = some (.lst vs)) (q : RpAll (hide (p :: O) H') vs ds) : St2 B O0 (p :: O) (r.set i (.own ds)) (σ.set i (some (.ref p))) H' := by
  have np : p ∉ O := fun z => S.en.dom p z hp
  have f := Free.of S.en hp
  refine ⟨S.ex.trans x, (S.en.more x hp fun z => by rw [h] at z; cases z).setOwn i (List.mem_cons_self ..) h q fun j es _ h1 => f j es h1, fun a ha => List.mem_cons_of_mem _ (S.sub a ha), fun a ha => ?_, fun j es a h1 h2 => ?_⟩
  · rcases List.mem_cons.mp ha with rfl | ha
    · exact .inr (S.ex.none_of hp)
    · exact S.fr a ha
  · rcases getSet h2 with ⟨_, z, _⟩ | ⟨ne, e2⟩
    · cases z
      exact fun z => np (S.sub p z)
    · rw [List.getElem?_set_ne ne] at h1
      exact S.nw j es a h1 e2
theorem St2.change (S : St2 B O0 O r σ H) {i : Nat} {p : Addr} {vs : List V} {ds es : List PyData} (e : r[i]? = some (.own ds)) (hp : σ[i]? = some (some (.ref p))) (hv : RpAll (hide O H) vs es) : St2 B O0 O (r.set i (.own es)) σ (upd H p (.lst vs)) := by
  have pO : p ∈ O := by
    obtain ⟨q, _, q1, q2, _⟩ := S.en.own e
    rw [hp] at q1
    cases q1
    exact q2
  have bp : B p = none := (S.fr p pO).resolve_left (S.nw i ds p e hp)
  refine ⟨S.ex.mut bp, S.en.change e hp hv, S.sub, S.fr, fun j es' a h1 h2 => ?_⟩
  rcases getSet h1 with ⟨e1, _, _⟩ | ⟨_, e1⟩
  · subst e1
    rw [hp] at h2
    cases h2
    exact S.nw i ds p e hp
  · exact S.nw j es' a e1 h2
/-- a later base: all that stands but one's own -/
def cut (O0 O : List Addr) (H : Hp) : Hp := fun a => if a ∈ O ∧ a ∉ O0 then none else H a
theorem cut_some {a : Addr} {o : HO} : cut O0 O H a = some o ↔ (a ∈ O → a ∈ O0) ∧ H a = some o := by
  unfold cut
  by_cases h : a ∈ O ∧ a ∉ O0
  · rw [if_pos h]
    constructor
    · intro z; cases z
    · intro z; exact absurd (z.1 h.1) h.2
  · rw [if_neg h]
    constructor
    · intro z; exact ⟨fun q => Classical.byContradiction fun n => h ⟨q, n⟩, z⟩
    · intro z; exact z.2
theorem St2.rebase (S : St2 B O0 O r σ H) : St2 (cut O0 O H) O0 O r σ H ∧ ∀ O2 r2 σ2 H2, St2 (cut O0 O H) O0 O2 r2 σ2 H2 → St2 B O0 O2 r2 σ2 H2 ∧ Ext (hide O H) (hide O2 H2) := by
  refine ⟨⟨fun a o h => (cut_some.mp h).2, S.en, S.sub, fun p hp => ?_, S.nw⟩, fun O2 r2 σ2 H2 T => ⟨⟨fun a o h => T.ex a o (cut_some.mpr ⟨fun q => (S.fr a q).resolve_right (fun z => by rw [h] at z; cases z), S.ex a o h⟩), T.en, T.sub, fun p hp => ?_, T.nw⟩, fun a o h => ?_⟩⟩
  · by_cases q : p ∈ O0
    · exact .inl q
    · right
      unfold cut
      rw [if_pos ⟨hp, q⟩]
  · rcases T.fr p hp with q | q
    · exact .inl q
    · by_cases w : p ∈ O
      · exact S.fr p w
      · right
        cases z : B p with
        | none => rfl
        | some o =>
          have q2 : cut O0 O H p = some o := cut_some.mpr ⟨fun m => absurd m w, S.ex p o z⟩
          rw [q] at q2
          cases q2
  · obtain ⟨h1, h2⟩ := hide_some.mp h
    have q : cut O0 O H a = some o := cut_some.mpr ⟨fun m => absurd m h1, h2⟩
    refine hide_some.mpr ⟨fun m => ?_, T.ex a o q⟩
    rcases T.fr a m with z | z
    · exact h1 (S.sub a z)
    · rw [q] at z; cases z
end
section
variable {X : Cx} {st : Stmt} {sts sts1 sts2 : List Stmt} {m m1 m2 : MS} {a b c : Expr} {me ma mb : ME} {ml : ML} {pos : Pos}
/-! blocks -/
def mSkip : MS := fun r => some (.nx r)
def mSeq2 (m1 m2 : MS) : MS := fun r => (m1 r).bind fun o => match o with
  | .nx r1 => m2 r1
  | .rt d => some (.rt d)
theorem dz_nil : PSs X [] (TZ mSkip) := ⟨fun pins s σ H D I ⟨B, O0, O, r, out, S, hm, P⟩ => by
  cases hm
  exact pss_nil.run pins s σ H D I (P O σ H S)⟩
theorem pssW {u u' : TS} (h : PSs X sts u) (w : ∀ D σ H, u' D σ H → u D σ H) : PSs X sts u' := ⟨fun pins s σ H D I q => h.run pins s σ H D I (w D σ H q)⟩
theorem dz_cons (h1 : PS X st (TZ m1)) (h2 : PSs X sts (TZ m2)) : PSs X (st :: sts) (TZ (mSeq2 m1 m2)) := pssW (pss_cons h1 h2) fun D σ H ⟨B, O0, O, r, out, S, hm, P⟩ => by
  obtain ⟨o1, e1, hm⟩ := bind_some hm
  refine ⟨B, O0, O, r, o1, S, e1, ?_⟩
  cases o1 with
  | nx r1 => exact fun O' σ' H' S' => ⟨B, O0, O', r1, out, S', hm, P⟩
  | rt d => cases hm; exact P
theorem dz_one (h1 : PS X st (TZ m1)) : PSs X [st] (TZ m1) := pss_one h1
/-! stores -/
def mSet (i : Nat) (m : ME) : MS := fun r => (m r).map fun d => .nx (r.set i (.val d))
def mSetO (i : Nat) (m : ML) : MS := fun r => (m r).map fun ds => .nx (r.set i (.own ds))
def lM (m : ML) : ME := fun r => (m r).map PyData.list
theorem ds_D {i : Nat} (h : PS X st (tAsg (TD me) (gName i))) : PS X st (TZ (mSet i me)) := psW h fun D σ H ⟨B, O0, O, r, out, S, hm, P⟩ => by
  obtain ⟨d, e1, hm⟩ := map_some hm
  subst hm
  exact ⟨O, r, d, S.en, e1, fun v H1 x q => P O _ H1 ((S.ext x).setVal i q)⟩
theorem ds_V {i : Nat} (h : PS X st (tAsg (TN ml) (gName i))) : PS X st (TZ (mSet i (lM ml))) := psW h fun D σ H ⟨B, O0, O, r, out, S, hm, P⟩ => by
  obtain ⟨d, e1, hm⟩ := map_some hm
  obtain ⟨ds, e2, e1⟩ := map_some e1
  subst hm e1
  refine ⟨O, r, ds, S.en, e2, fun p vs H1 hp x h q => P O _ H1 ((S.ext x).setVal i (.lst (hide_some.mpr ⟨fun z => S.en.dom p z hp, h⟩) (dpa_ext (hide_less fun y hy => List.mem_cons_of_mem _ hy) q)))⟩
theorem ds_O {i : Nat} (h : PS X st (tAsg (TN ml) (gName i))) : PS X st (TZ (mSetO i ml)) := psW h fun D σ H ⟨B, O0, O, r, out, S, hm, P⟩ => by
  obtain ⟨ds, e2, hm⟩ := map_some hm
  subst hm
  exact ⟨O, r, ds, S.en, e2, fun p vs H1 hp x h q => P _ _ H1 (S.setOwn i hp x h q)⟩
theorem ds_set {i : Nat} {x : PySem.Str} {p2 : Pos} (hN : X.N.Nodup) (hi : X.N[i]? = some x) (hx : Loc X.env.scope x) (he : PE X a (TD me)) (hs : swapsWith a (some (.Name x p2)) pos.line X.env = pure false := by rfl)
    (hf : X.fn x = true ∨ X.env.scope.names.lookup x = some .local := by first | exact .inl rfl | exact .inr rfl | assumption) : PS X (.Assign [.Name x p2] a pos) (TZ (mSet i me)) := ds_D (ps_set hN hi hx he hs hf)
theorem ds_setO {i : Nat} {x : PySem.Str} {p2 : Pos} (hN : X.N.Nodup) (hi : X.N[i]? = some x) (hx : Loc X.env.scope x) (he : PE X a (TN ml)) (hs : swapsWith a (some (.Name x p2)) pos.line X.env = pure false := by rfl)
    (hf : X.fn x = true ∨ X.env.scope.names.lookup x = some .local := by first | exact .inl rfl | exact .inr rfl | assumption) : PS X (.Assign [.Name x p2] a pos) (TZ (mSetO i ml)) := ds_O (ps_set hN hi hx he hs hf)
def mAug (i : Nat) (m : ME) : MS := fun r => (iM (mVar i) r).bind fun a => (iM m r).map fun b => .nx (r.set i (.val (.int (a + b))))
theorem ds_aug {i : Nat} {x : PySem.Str} {p2 : Pos} (hN : X.N.Nodup) (hi : X.N[i]? = some x) (hx : Loc X.env.scope x) (he : PE X a (TD me)) (hf : X.fn x = true ∨ X.env.scope.names.lookup x = some .local := by first | exact .inl rfl | exact .inr rfl | assumption) :
    PS X (.AugAssign (.Name x p2) .Add a pos) (TZ (mAug i me)) := psW (ps_aug hN hi hx he ip_add hf) fun D σ H ⟨B, O0, O, r, out, S, hm, P⟩ => by
  obtain ⟨n, e1, hm⟩ := bind_some hm
  obtain ⟨k, e2, hm⟩ := map_some hm
  subst hm
  obtain ⟨v, h1, h2⟩ := S.en.val (mVar_ok (iM_ok e1))
  rw [dp_int h2] at h1
  exact ⟨.int n, h1, O, r, _, S.en, iM_ok e2, fun w H1 x q => ⟨n, k, rfl, dp_int q, P O _ H1 ((S.ext x).setVal i (.int _))⟩⟩
/-! two or three stored at once -/
def tPrK (F : V → V → Hp → Ends → L2.St → Prop) (ta tb : TE) : TS := fun D σ H => ta σ H fun x H1 => tb σ H1 fun y H2 => F x y H2 D σ
def OkK (i j : Nat) (F : V → V → Hp → Ends → L2.St → Prop) : Prop := ∀ x y H2 D σ, (∀ H3, Ext H2 H3 → D.nx ((σ.set i (some x)).set j (some y)) H3) → F x y H2 D σ
def mPar (i j : Nat) (m : List Sl → Option Sl) (n : List Sl → Option Sl) : MS := fun r => (m r).bind fun s => (n r).map fun t => .nx ((r.set i s).set j t)
def sV (m : ME) : List Sl → Option Sl := fun r => (m r).map Sl.val
def sO (m : ML) : List Sl → Option Sl := fun r => (m r).map Sl.own
variable {i j l : Nat} {mc : ME} {F : V → V → Hp → Ends → L2.St → Prop}
theorem ds_vv (hF : OkK i j F) (h : PS X st (tPrK F (TD ma) (TD mb))) : PS X st (TZ (mPar i j (sV ma) (sV mb))) := psW h fun D σ H ⟨B, O0, O, r, out, S, hm, P⟩ => by
  obtain ⟨s, e1, hm⟩ := bind_some hm
  obtain ⟨t, e2, hm⟩ := map_some hm
  obtain ⟨d, f1, h1⟩ := map_some e1
  obtain ⟨e, f2, h2⟩ := map_some e2
  subst h1 h2 hm
  exact ⟨O, r, d, S.en, f1, fun x H1 x1 q1 => ⟨O, r, e, S.en.ext x1, f2, fun y H2 x2 q2 => hF _ _ _ _ _ fun H3 x3 => P O _ H3 (((S.ext (x1.trans (x2.trans x3))).setVal i (dp_ext (hide_ext (x2.trans x3)) q1)).setVal j (dp_ext (hide_ext x3) q2))⟩⟩
theorem ds_ov (hF : OkK i j F) (h : PS X st (tPrK F (TN ml) (TD mb))) : PS X st (TZ (mPar i j (sO ml) (sV mb))) := psW h fun D σ H ⟨B, O0, O, r, out, S, hm, P⟩ => by
  obtain ⟨s, e1, hm⟩ := bind_some hm
  obtain ⟨t, e2, hm⟩ := map_some hm
  obtain ⟨ds, f1, h1⟩ := map_some e1
  obtain ⟨e, f2, h2⟩ := map_some e2
  subst h1 h2 hm
  exact ⟨O, r, ds, S.en, f1, fun p vs H1 hp x1 hh z => ⟨p :: O, r, e, S.en.more x1 hp (fun w => by rw [hh] at w; cases w), f2, fun y H2 x2 q2 => hF _ _ _ _ _ fun H3 x3 => P _ _ H3 (((S.setOwn i hp x1 hh z).ext (x2.trans x3)).setVal j (dp_ext (hide_ext x3) q2))⟩⟩
theorem ds_vo (hF : OkK i j F) (h : PS X st (tPrK F (TD ma) (TN ml))) : PS X st (TZ (mPar i j (sV ma) (sO ml))) := psW h fun D σ H ⟨B, O0, O, r, out, S, hm, P⟩ => by
  obtain ⟨s, e1, hm⟩ := bind_some hm
  obtain ⟨t, e2, hm⟩ := map_some hm
  obtain ⟨d, f1, h1⟩ := map_some e1
  obtain ⟨ds, f2, h2⟩ := map_some e2
  subst h1 h2 hm
  exact ⟨O, r, d, S.en, f1, fun x H1 x1 q1 => ⟨O, r, ds, S.en.ext x1, f2, fun p vs H2 hp x2 hh z => hF _ _ _ _ _ fun H3 x3 => P _ _ H3 ((((S.ext x1).setVal i q1).setOwn j hp x2 hh z).ext x3)⟩⟩
def fL (i j : Nat) : V → V → Hp → Ends → L2.St → Prop := fun x y H D σ => ∃ v w, [x, y] = [v, w] ∧ D.nx ((σ.set i (some v)).set j (some w)) H
theorem fL_ok : OkK i j (fL i j) := fun x y H2 D σ h => ⟨x, y, rfl, h H2 (Ext.refl _)⟩
def fT (K : PySem.W.Frag) (i j : Nat) : V → V → Hp → Ends → L2.St → Prop := fun x y H D σ => [x, y].length ≤ sizeLine ∧ ∀ T, H T = none → gTup K 2 (gCons (gName i) (gCons (gName j) gNil)) (.ref T) σ (upd H T (.tup [x, y])) D.nx
theorem fT_ok {K : PySem.W.Frag} : OkK i j (fT K i j) := fun x y H2 D σ h => ⟨by show 2 ≤ sizeLine; decide, fun T hT => ⟨T, [x, y], rfl, SqT.of upd_same, rfl, x, [y], rfl, y, [], rfl, rfl, h _ (Ext.new hT)⟩⟩
/-- both names local: the stores swapped -/
theorem ps_prL {x y : PySem.Str} {ta tb : TE} {px py pt : Pos} {kt k2 pt2} (hc : X.calm = true) (hN : X.N.Nodup) (hi : X.N[i]? = some x) (hj : X.N[j]? = some y) (hij : i ≠ j)
    (hx : X.env.scope.names.lookup x = some .local) (hy : X.env.scope.names.lookup y = some .local) (ha : PE X a ta) (hb : PE X b tb)
    (hw : swappedStores [.Tuple [.Name x px, .Name y py] kt pt] (.Tuple [a, b] k2 pt2) X.env = pure (some [x, y]) := by rfl)
    (n1 : starEach [a, b] X.env = (false, eval a X.env) :: starEach [b] X.env := by rfl) (n2 : starEach [b] X.env = (false, eval b X.env) :: starEach [] X.env := by rfl)
    (hs : swapsWithSole [.Tuple [.Name x px, .Name y py] kt pt] (.Tuple [a, b] k2 pt2) pos.line X.env = pure false := by rfl) :
    PS X (.Assign [.Tuple [.Name x px, .Name y py] kt pt] (.Tuple [a, b] k2 pt2) pos) (tPrK (fL i j) ta tb) := ps_par hc hN hi hj hij hx hy (pa_cons ha (pa_cons hb pa_nil n2) n1) hw hs
/-- one of them captured: a pair made and taken apart -/
theorem ps_prT {g1 g2 : Expr} {ta tb : TE} {pt : Pos} {kt k2 pt2} (hc : X.calm = true) (h1 : PG X g1 (gName i)) (h2 : PG X g2 (gName j)) (ha : PE X a ta) (hb : PE X b tb)
    (w1 : (assignEach [g1, g2] X.env).map (·.2) = assign g1 X.env :: (assignEach [g2] X.env).map (·.2) := by rfl) (w2 : (assignEach [g2] X.env).map (·.2) = assign g2 X.env :: (assignEach [] X.env).map (·.2) := by rfl)
    (w3 : (assignEach [g1, g2] X.env).length = 2 := by rfl) (w4 : (assignEach [g1, g2] X.env).findIdx? (·.1) = none := by rfl)
    (n1 : starEach [a, b] X.env = (false, eval a X.env) :: starEach [b] X.env := by rfl) (n2 : starEach [b] X.env = (false, eval b X.env) :: starEach [] X.env := by rfl)
    (hs : swapsWithSole [.Tuple [g1, g2] kt pt] (.Tuple [a, b] k2 pt2) pos.line X.env = pure false := by rfl) (hw : swappedStores [.Tuple [g1, g2] kt pt] (.Tuple [a, b] k2 pt2) X.env = pure none := by rfl)
    (hq : (assignEach [.Tuple [g1, g2] kt pt] X.env).map (·.2) = [assign (.Tuple [g1, g2] kt pt) X.env] := by rfl) :
    PS X (.Assign [.Tuple [g1, g2] kt pt] (.Tuple [a, b] k2 pt2) pos) (tPrK (fT X.K i j) ta tb) :=
  ps_asg (pe_tup (pa_cons ha (pa_cons hb pa_nil n2) n1)) (pg_tup hc (pgs_cons h1 (pgs_cons h2 pgs_nil w2) w1) w3 w4) hs hw hq
/-- a, b, c = a new list of one's own, two values; all names local -/
def mPar3 (i j l : Nat) (m n k : List Sl → Option Sl) : MS := fun r => (m r).bind fun s => (n r).bind fun t => (k r).map fun u => .nx (((r.set i s).set j t).set l u)
theorem ds_ovv (h : PS X st (tPar3 i j l (tCons (TN ml) (tCons (TD mb) (tCons (TD mc) tNil))))) : PS X st (TZ (mPar3 i j l (sO ml) (sV mb) (sV mc))) := psW h fun D σ H ⟨B, O0, O, r, out, S, hm, P⟩ => by
  obtain ⟨s, e1, hm⟩ := bind_some hm
  obtain ⟨t, e2, hm⟩ := bind_some hm
  obtain ⟨u, e3, hm⟩ := map_some hm
  obtain ⟨ds, f1, h1⟩ := map_some e1
  obtain ⟨e, f2, h2⟩ := map_some e2
  obtain ⟨g, f3, h3⟩ := map_some e3
  subst h1 h2 h3 hm
  refine ⟨O, r, ds, S.en, f1, fun p vs H1 hp x1 hh z => ?_⟩
  have E1 : En (p :: O) r σ H1 := S.en.more x1 hp fun w => by rw [hh] at w; cases w
  exact ⟨p :: O, r, e, E1, f2, fun y H2 x2 q2 => ⟨p :: O, r, g, E1.ext x2, f3, fun y3 H3 x3 q3 => ⟨_, _, _, rfl, P _ _ H3 ((((S.setOwn i hp x1 hh z).ext (x2.trans x3)).setVal j (dp_ext (hide_ext x3) q2)).setVal l q3)⟩⟩⟩
/-! a value taken apart -/
def gNames : List Nat → TGs
  | [] => gNil
  | i :: is => gCons (gName i) (gNames is)
def setAll : List Sl → List Nat → List PyData → Option (List Sl)
  | r, [], [] => some r
  | r, i :: is, d :: ds => setAll (r.set i (.val d)) is ds
  | _, _, _ => none
def mUnp (is : List Nat) (m : ME) : MS := fun r => ((m r).bind asTup).bind fun ds => (setAll r is ds).map Out.nx
theorem setAll_go {K : PySem.W.Frag} {B : Hp} {O0 O : List Addr} {D : Ends} {H : Hp} : ∀ {is : List Nat} {vs : List V} {ds : List PyData} {r r' : List Sl} {σ : L2.St}, St2 B O0 O r σ H → RpAll (hide O H) vs ds → setAll r is ds = some r' → (∀ O σ H, St2 B O0 O r' σ H → D.nx σ H) → gNames is vs σ H D.nx
  | [], _, [], _, _, _, S, h, e, k => by
    cases h
    cases e
    exact ⟨rfl, k _ _ _ S⟩
  | [], _, _ :: _, _, _, _, _, _, e, _ => by cases e
  | i :: is, _, [], _, _, _, _, _, e, _ => by cases e
  | i :: is, _, d :: ds, _, _, _, S, h, e, k => by
    cases h with
    | cons h1 h2 => exact ⟨_, _, rfl, setAll_go (K := K) (S.setVal i h1) h2 e k⟩
theorem setAll_len : ∀ {is : List Nat} {ds : List PyData} {r r' : List Sl}, setAll r is ds = some r' → ds.length = is.length
  | [], [], _, _, _ => rfl
  | [], _ :: _, _, _, e => by cases e
  | _ :: _, [], _, _, e => by cases e
  | i :: is, d :: ds, r, r', e => congrArg Nat.succ (setAll_len (is := is) (ds := ds) (show setAll (r.set i (.val d)) is ds = some r' from e))
theorem ds_unp {is : List Nat} (h : PS X st (tAsg (TD me) (gTup X.K is.length (gNames is)))) : PS X st (TZ (mUnp is me)) := psW h fun D σ H ⟨B, O0, O, r, out, S, hm, P⟩ => by
  obtain ⟨ds, e1, hm⟩ := bind_some hm
  obtain ⟨d, e0, e1⟩ := bind_some e1
  obtain ⟨r', e2, hm⟩ := map_some hm
  subst hm
  have ed := asTup_ok e1
  subst ed
  refine ⟨O, r, _, S.en, e0, fun v H1 x q => ?_⟩
  obtain ⟨a, vs, rfl, h1, h2⟩ := dp_tup q
  exact ⟨a, vs, rfl, SqT.of (hide_sub _ _ _ _ h1), by rw [dpa_len h2, setAll_len e2], setAll_go (K := X.K) (S.ext x) h2 e2 P⟩
end
end Ly
set_option Elab.async false
set_option linter.all false
set_option maxRecDepth 100000
set_option maxHeartbeats 4000000
namespace Ly
open PySem PySem.Spec PyProof.Rows L2
section
variable {X : Cx} {st : Stmt} {sts sts1 sts2 : List Stmt} {m m1 m2 : MS} {a b c : Expr} {me ma mb : ME} {ml : ML} {mt : MB} {pos : Pos} {i j : Nat}
/-! one's own list grows, is changed by place -/
def ownD (i : Nat) : List Sl → Option (List PyData) := fun r => match r[i]? with
  | some (.own ds) => some ds
  | _ => none
theorem ownD_ok {r : List Sl} {ds : List PyData} (h : ownD i r = some ds) : r[i]? = some (.own ds) := by
  unfold ownD at h
  split at h
  · next e => cases h; exact e
  · cases h
def mApp (i : Nat) (m : ME) : MS := fun r => (ownD i r).bind fun ds => (m r).bind fun d => if ds.length < 100000 then some (.nx (r.set i (.own (ds ++ [d])))) else none
def mExt (i : Nat) (m : ML) : MS := fun r => (ownD i r).bind fun ds => (m r).bind fun es => if okSz ds && okSz es then some (.nx (r.set i (.own (ds ++ es)))) else none
def mPut (i : Nat) (k m : ME) : MS := fun r => (ownD i r).bind fun ds => (m r).bind fun d => (iM k r).bind fun n => (ixN ds.length n).map fun j => .nx (r.set i (.own (ds.set j d)))
theorem own_at {B : Hp} {O0 O : List Addr} {r : List Sl} {σ : L2.St} {H : Hp} {ds : List PyData} (S : St2 B O0 O r σ H) (h : ownD i r = some ds) : ∃ p vs, r[i]? = some (.own ds) ∧ σ[i]? = some (some (.ref p)) ∧ H p = some (.lst vs) ∧ RpAll (hide O H) vs ds := by
  obtain ⟨p, vs, h1, _, h3, h4⟩ := S.en.own (ownD_ok h)
  exact ⟨p, vs, ownD_ok h, h1, h3, h4⟩
theorem ds_app (h : PS X st (tDrop (tBM X.K "list" rAppend (tVar i) (tCons (TD me) tNil)))) : PS X st (TZ (mApp i me)) := psW h fun D σ H ⟨B, O0, O, r, out, S, hm, P⟩ => by
  obtain ⟨ds, e1, hm⟩ := bind_some hm
  obtain ⟨d, e2, hm⟩ := bind_some hm
  split at hm
  · next hl =>
    cases hm
    obtain ⟨p, vs, h0, h1, h2, h3⟩ := own_at S e1
    refine ⟨.ref p, h1, .inl ⟨rfl, vs, SqL.of h2⟩, O, r, d, S.en, e2, fun v H1 x q => ⟨p, vs, v, rfl, rfl, x _ _ h2, by rw [dpa_len h3]; exact szlt hl, P O _ _ ((S.ext x).change h0 h1 (dpa_app (dpa_ext (hide_ext x) h3) (.cons q .nil)))⟩⟩
  · cases hm
theorem ds_ext (h : PS X st (tDrop (tBM X.K "list" rExtend (tVar i) (tCons (TN ml) tNil)))) : PS X st (TZ (mExt i ml)) := psW h fun D σ H ⟨B, O0, O, r, out, S, hm, P⟩ => by
  obtain ⟨ds, e1, hm⟩ := bind_some hm
  obtain ⟨es, e2, hm⟩ := bind_some hm
  obtain ⟨c, e3⟩ := iteSome hm
  obtain ⟨c1, c2⟩ := Bool.and_eq_true_iff.mp c
  subst e3
  obtain ⟨p, vs, h0, h1, h2, h3⟩ := own_at S e1
  refine ⟨.ref p, h1, .inl ⟨rfl, vs, SqL.of h2⟩, O, r, es, S.en, e2, fun q ws H1 hq x hh z => ⟨p, q, vs, ws, rfl, rfl, x _ _ h2, hh, ?_, P O _ _ ((S.ext x).change h0 h1 (dpa_app (dpa_ext (hide_ext x) h3) (dpa_ext (hide_less fun y hy => List.mem_cons_of_mem _ hy) z)))⟩⟩
  rw [dpa_len h3, dpa_len z]
  exact sz2 (okSz_ok c1) (okSz_ok c2)
theorem ds_put {k : ME} (h : PS X st (tAsg (TD me) (L2.gSub (tVar i) (TD k) rSetL))) : PS X st (TZ (mPut i k me)) := psW h fun D σ H ⟨B, O0, O, r, out, S, hm, P⟩ => by
  obtain ⟨ds, e1, hm⟩ := bind_some hm
  obtain ⟨d, e2, hm⟩ := bind_some hm
  obtain ⟨n, e3, hm⟩ := bind_some hm
  obtain ⟨j, e4, hm⟩ := map_some hm
  subst hm
  obtain ⟨p, vs, h0, h1, h2, h3⟩ := own_at S e1
  exact ⟨O, r, d, S.en, e2, fun v H1 x q => ⟨.ref p, h1, O, r, _, S.en.ext x, iM_ok e3, fun w H2 x2 q2 => ⟨p, vs, n, j, rfl, dp_int q2, x2 _ _ (x _ _ h2), by rw [dpa_len h3]; exact e4,
    P O _ _ ((S.ext (x.trans x2)).change h0 h1 (dpa_set (dp_ext (hide_ext x2) q) j (dpa_ext (hide_ext (x.trans x2)) h3)))⟩⟩⟩
/-! a value dropped, handed back -/
def mDrop (m : ME) : MS := fun r => (m r).map fun _ => .nx r
theorem ds_expr (he : PE X a (TD me)) (hs : swapsWith a none pos.line X.env = pure false := by rfl) : PS X (.Expr a pos) (TZ (mDrop me)) := psW (ps_expr he hs) fun D σ H ⟨B, O0, O, r, out, S, hm, P⟩ => by
  obtain ⟨d, e1, hm⟩ := map_some hm
  subst hm
  exact ⟨O, r, d, S.en, e1, fun v H1 x q => P O σ H1 (S.ext x)⟩
/-- what may be handed back: a value, or one's own list -/
def TR (m : ME) : TE := fun σ H Q => ∃ B O0 O r d, St2 B O0 O r σ H ∧ m r = some d ∧ ∀ v H', Ext B H' → Rp (hide O0 H') v d → Q v H'
theorem dr_e (h : PE X a (TD me)) : PE X a (TR me) := peW h fun σ H Q ⟨B, O0, O, r, d, S, hm, k⟩ => ⟨O, r, d, S.en, hm, fun v H' x q => k v H' (S.ex.trans x) (dp_ext (hide_less S.sub) q)⟩
theorem dr_n (h : PE X a (TN ml)) : PE X a (TR (lM ml)) := dr_e (dn_w h)
theorem dr_own (i : Nat) {x : PySem.Str} (hN : X.N[i]? = some x := by rfl) (hv : Vis X.env.scope x := by first | exact Or.inl rfl | exact Or.inr (Or.inl rfl) | exact Or.inr (Or.inr rfl)) (hd : (x == ("__debug__" : PySem.Str)) = false := by decide)
    (hcd : (x == ("__classdict__" : PySem.Str)) = false := by decide) : PE X (.Name x pos) (TR (mOwn i)) := peW (pe_var hN hv hd hcd) fun σ H Q ⟨B, O0, O, r, d, S, hm, k⟩ => by
  obtain ⟨ds, e0, e⟩ := mOwn_ok hm
  obtain ⟨p, vs, e1, _, e3, e4⟩ := S.en.own e
  subst e0
  exact ⟨.ref p, e1, k _ H S.ex (.lst (hide_some.mpr ⟨S.nw i ds p e e1, e3⟩) (dpa_ext (hide_less S.sub) e4))⟩
theorem dr_if (hc : PT X c (TB mt)) (ha : PE X a (TR ma)) (hb : PE X b (TR mb)) : PE X (.IfExp c a b pos) (TR (mIf mt ma mb)) := peW (pe_ifExp hc ha hb) fun σ H Q ⟨B, O0, O, r, d, S, hm, k⟩ => by
  obtain ⟨t, e1, e2⟩ := bind_some hm
  refine ⟨O, r, t, S.en, e1, fun H' x => ?_⟩
  cases t with
  | true => exact ⟨B, O0, O, r, d, S.ext x, e2, k⟩
  | false => exact ⟨B, O0, O, r, d, S.ext x, e2, k⟩
def mRet (m : ME) : MS := fun r => (m r).map Out.rt
theorem ds_ret (he : PE X a (TR me)) : PS X (.Return (some a) pos) (TZ (mRet me)) := psW (ps_ret he) fun D σ H ⟨B, O0, O, r, out, S, hm, P⟩ => by
  obtain ⟨d, e1, hm⟩ := map_some hm
  subst hm
  exact ⟨B, O0, O, r, d, S, e1, fun v H' x q => P v H' x q⟩
/-! if -/
def mIfS (t : MB) (m n : MS) : MS := fun r => (t r).bind fun b => if b then m r else n r
theorem ds_if (hc : PT X c (TB mt)) (ha : PSs X sts1 (TZ m1)) (hb : PSs X sts2 (TZ m2)) : PS X (.If c sts1 sts2 pos) (TZ (mIfS mt m1 m2)) := psW (ps_if hc ha hb) fun D σ H ⟨B, O0, O, r, out, S, hm, P⟩ => by
  obtain ⟨t, e1, e2⟩ := bind_some hm
  refine ⟨O, r, t, S.en, e1, fun H' x => ?_⟩
  cases t with
  | true => exact ⟨B, O0, O, r, out, S.ext x, e2, P⟩
  | false => exact ⟨B, O0, O, r, out, S.ext x, e2, P⟩
/-- a way that is never gone -/
def mNever : MS := fun _ => none
theorem dz_never : PSs X sts (TZ mNever) := pssW pss_never fun D σ H ⟨B, O0, O, r, out, S, hm, P⟩ => by cases hm
/-! for -/
def forGo (tg : Tg) (m : MS) : List PyData → MS
  | [], r => some (.nx r)
  | d :: ds, r => (setT tg d r).bind fun r1 => (m r1).bind fun o => match o with
    | .nx r2 => forGo tg m ds r2
    | .rt e => some (.rt e)
def mFor (mi : ML) (tg : Tg) (m : MS) : MS := fun r => (mi r).bind fun ds => forGo tg m ds r
theorem setT_St2 {t : Tg} {B : Hp} {O0 O : List Addr} {r r' : List Sl} {σ : L2.St} {H : Hp} {v : V} {d : PyData} {K : PySem.W.Frag} {Q : L2.St → Hp → Prop} (S : St2 B O0 O r σ H) (hv : Rp (hide O H) v d) (hs : setT t d r = some r') (k : ∀ σ', St2 B O0 O r' σ' H → Q σ' H) : gT K t v σ H Q := by
  cases t with
  | nm i =>
    cases hs
    exact k _ (S.setVal i hv)
  | pr i j =>
    unfold setT at hs
    split at hs
    · next h => cases h
    · next i' j' d1 e1 h =>
      cases h
      cases hs
      obtain ⟨a, vs, rfl, h1, h2⟩ := dp_tup hv
      cases h2 with
      | cons r1 t1 =>
        cases t1 with
        | cons r2 t2 =>
          cases t2
          exact ⟨a, _, rfl, SqT.of (hide_sub _ _ _ _ h1), rfl, _, _, rfl, _, _, rfl, rfl, k _ ((S.setVal i r1).setVal j r2)⟩
    · cases hs
theorem for_read {K : PySem.W.Frag} {mi : ML} {tg : Tg} {D : Ends} {σ : L2.St} {H : Hp} (h : TZ (mFor mi tg m) D σ H) : tFor (TIt mi) (gT K tg) (TZ m) D σ H := by
  obtain ⟨B, O0, O, r, out, S, hm, P⟩ := h
  obtain ⟨ds, e1, hm⟩ := bind_some hm
  refine ⟨O, r, ds, S.en, e1, fun J H1 x1 wd => ?_⟩
  obtain ⟨G, Y, w, wG, wY⟩ := wd.ex
  have S1 := S.ext x1
  obtain ⟨S2, back⟩ := S1.rebase
  refine for_it w (fun i σ' H' => ∃ O' r', St2 (cut O0 O H1) O0 O' r' σ' H' ∧ forGo tg m (ds.drop i) r' = some out) ⟨O, r, S2, hm⟩ (fun i σ' H' _ p => ?_) (fun i x σ' H' H2 hi p y => ?_) fun σ' H' p => ?_
  · obtain ⟨O', r', T, _⟩ := p
    exact wG O' H' (back _ _ _ _ T).2
  · obtain ⟨O', r', T, hr⟩ := p
    obtain ⟨d, hd, hdrop⟩ := drop_cons hi
    rw [hdrop] at hr
    obtain ⟨r1, s1, hr⟩ := bind_some hr
    obtain ⟨o, s2, hr⟩ := bind_some hr
    obtain ⟨y1, y2⟩ := wY i H' x H2 O' hi T.en.dom (back _ _ _ _ T).2 y
    refine setT_St2 (T.ext y1) (y2 d hd) s1 fun σ3 T3 => ⟨cut O0 O H1, O0, O', r1, o, T3, s2, ?_⟩
    cases o with
    | nx r2 => exact fun O4 σ4 H4 T4 => ⟨O4, r2, T4, hr⟩
    | rt e =>
      cases hr
      exact fun v H4 x4 q4 => P v H4 (fun a o h => x4 a o (cut_some.mpr ⟨fun q => (S1.fr a q).resolve_right (fun z => by rw [h] at z; cases z), S1.ex a o h⟩)) q4
  · obtain ⟨O', r', T, hr⟩ := p
    rw [List.drop_length] at hr
    cases hr
    exact P O' σ' H' (back _ _ _ _ T).1
theorem ds_for {tg iter : Expr} {mi : ML} {t : Tg} (hp : PassesOwn (model X.prog X.w) X.A X.env X.xe) (hc : X.calm = true) (hi : PI X tg iter (TIt mi)) (hg : PG X tg (gT X.K t)) (hb : PSs X sts (TZ m)) (hs : ∀ x, foldedSetIterable iter X.env x = pure x := by intro _; rfl) :
    PS X (.For tg iter sts [] pos) (TZ (mFor mi t m)) := psW (ps_for hp hc hi hg hb hs) fun D σ H h => for_read h
/-! while -/
def whGo (t : MB) (m : MS) : Nat → MS
  | 0, _ => none
  | n + 1, r => (t r).bind fun b => if b then (m r).bind fun o => match o with
    | .nx r2 => whGo t m n r2
    | .rt e => some (.rt e)
    else some (.nx r)
def mWhile (n : Nat) (t : MB) (m : MS) : MS := whGo t m n
theorem ds_while (n : Nat) (hp : PassesOwn (model X.prog X.w) X.A X.env X.xe) (hc : PT X c (TB mt)) (hb : PSs X sts (TZ m)) : PS X (.While c sts [] pos) (TZ (mWhile n mt m)) := psW (ps_while hp hc hb) fun D σ H ⟨B, O0, O, r, out, S, hm, P⟩ => by
  refine ⟨fun k σ' H' => ∃ O' r', St2 B O0 O' r' σ' H' ∧ whGo mt m k r' = some out, ⟨n, O, r, S, hm⟩, fun k σ' H' p => ?_⟩
  obtain ⟨O', r', T, hr⟩ := p
  cases k with
  | zero => cases hr
  | succ k =>
    obtain ⟨b, s1, hr⟩ := bind_some hr
    refine ⟨O', r', b, T.en, s1, fun H2 x2 => ?_⟩
    cases b with
    | false => cases hr; exact P O' σ' H2 (T.ext x2)
    | true =>
      obtain ⟨o, s2, hr⟩ := bind_some hr
      refine ⟨fun σ3 H3 => ∃ O3 r3, St2 B O0 O3 r3 σ3 H3 ∧ whGo mt m k r3 = some out, fun σ3 H3 q => ⟨k, Nat.lt_succ_self k, q⟩, B, O0, O', r', o, T.ext x2, s2, ?_⟩
      cases o with
      | nx r2 => exact fun O4 σ4 H4 T4 => ⟨O4, r2, T4, hr⟩
      | rt e => cases hr; exact P
end
/-! a def -/
def endD : Out → PyData
  | .rt d => d
  | .nx _ => .none
def mFn (np nl : Nat) (m : MS) : List PyData → Option PyData := fun ds => if ds.length = np then (m (ds.map Sl.val ++ List.replicate (nl - np) .no)).map endD else none
theorem start_ok {O : List Addr} {H : Hp} {vs : List V} {ds : List PyData} (dom : ∀ p ∈ O, H p ≠ none) (h : RpAll (hide O H) vs ds) (k : Nat) : En O (ds.map Sl.val ++ List.replicate k .no) (vs.map some ++ List.replicate k none) H := by
  have hl := dpa_len h
  have no : ∀ {i : Nat} {es}, (ds.map Sl.val ++ List.replicate k .no)[i]? ≠ some (.own es) := fun {i es} z => by
    rcases List.mem_append.mp (List.mem_of_getElem? z) with q | q
    · obtain ⟨d, _, q⟩ := List.mem_map.mp q
      cases q
    · have q := List.eq_of_mem_replicate q
      cases q
  refine ⟨by simp [hl], fun i x s h1 h2 => ?_, dom, fun i j p a b _ h1 _ _ _ => absurd h1 no⟩
  by_cases hi : i < ds.length
  · rw [List.getElem?_append_left (by simpa using hi), List.getElem?_map, List.getElem?_eq_getElem hi] at h2
    obtain ⟨v, q1, q2⟩ := dpa_get h (List.getElem?_eq_getElem hi)
    rw [List.getElem?_append_left (by rw [List.length_map]; omega), List.getElem?_map, q1] at h1
    cases h1
    cases h2
    exact ⟨v, rfl, q2⟩
  · rw [List.getElem?_append_right (by simpa using hi)] at h2
    have q := List.eq_of_mem_replicate (List.mem_of_getElem? h2)
    subst q
    trivial
section
variable {P : Program} {w : World} {K : PySem.W.Frag} {mg : PySem.Str → Option Value} {base : Heap}
theorem fn_ok {k : Nat} {N ps : List PySem.Str} {x qual : PySem.Str} {params : Arguments} {body : List Stmt} {scope : Scope} {dvs : List V} {kws : List (PySem.Str × V)} {f : Addr} {fd : FuncData} {m : MS} (F : FunD K x qual params body scope dvs kws f fd) (S : FnScope N ps scope)
    (hb : ∀ (cdv : Value) (A : Around) (outer : List Env) (s : Shared) (H : Hp) (E : XK), Room k (A.deeper (envOfC qual scope s.heap.objs.size f cdv)) → PSs (cxOf CX0 P w K mg base N qual scope f cdv A outer s H E).nox body (TZ m)) :
    FnOk P w K mg base CX0 (k + 1) f fd ps (spD (mFn ps.length N.length m)) := by
  have len : ∀ vs H Q E, spD (mFn ps.length N.length m) vs H Q E → vs.length = ps.length := fun vs H Q E ⟨O, ds, d, _, h, hm, _⟩ => by
    unfold mFn at hm
    split at hm
    · next e => rw [dpa_len h]; exact e
    · cases hm
  refine F.ok S len fun cdv A outer s H vs Q E hr h => ⟨TZ m, PSs.nox (hb cdv A outer s H E hr), ?_⟩
  have hl := len vs H Q E h
  obtain ⟨O, ds, d, dom, h, hm, k⟩ := h
  unfold mFn at hm
  split at hm
  · next e =>
    obtain ⟨out, e1, e2⟩ := map_some hm
    have E0 := start_ok dom h (N.length - ps.length)
    have no : ∀ (j : Nat) es p, (ds.map Sl.val ++ List.replicate (N.length - ps.length) .no)[j]? = some (.own es) → (vs.map some ++ List.replicate (N.length - ps.length) none)[j]? = some (some (.ref p)) → p ∉ O := fun j es p z => by
      rcases List.mem_append.mp (List.mem_of_getElem? z) with q | q
      · obtain ⟨d, _, q⟩ := List.mem_map.mp q
        cases q
      · have q := List.eq_of_mem_replicate q
        cases q
    refine ⟨H, O, O, _, out, ⟨Ext.refl H, by unfold L2.start; rw [hl]; exact E0, fun p hp => hp, fun p hp => .inl hp, by unfold L2.start; rw [hl]; exact no⟩, e1, ?_⟩
    cases out with
    | rt d' => cases e2; exact fun v H' x q => k v H' x q
    | nx r => cases e2; exact fun O' σ' H' T => k _ H' T.ex .non
  · cases hm
end
end Ly
set_option Elab.async false
set_option linter.all false
set_option maxRecDepth 100000
set_option maxHeartbeats 4000000
namespace Ly
open PySem PySem.Spec PyProof.Rows L2
/-! one's own list is let go: from here on it is a value -/
def mFrz (i : Nat) (m : MS) : MS := fun r => (ownD i r).bind fun ds => m (r.set i (.val (.list ds)))
theorem St2.freeze {B : Hp} {O0 O : List Addr} {r : List Sl} {σ : L2.St} {H : Hp} {i : Nat} {ds : List PyData} (S : St2 B O0 O r σ H) (h : r[i]? = some (.own ds)) : ∃ O', St2 B O0 O' (r.set i (.val (.list ds))) σ H := by
  obtain ⟨p, vs, h1, h2, h3, h4⟩ := S.en.own h
  have hs : ∀ q ∈ O.filter (fun q => decide (q ≠ p)), q ∈ O := fun q hq => (List.mem_filter.mp hq).1
  have np : p ∉ O.filter (fun q => decide (q ≠ p)) := fun z => of_decide_eq_true (List.mem_filter.mp z).2 rfl
  have hv : Rp (hide (O.filter fun q => decide (q ≠ p)) H) (.ref p) (.list ds) := .lst (hide_some.mpr ⟨np, h3⟩) (dpa_ext (hide_less hs) h4)
  refine ⟨O.filter fun q => decide (q ≠ p), S.ex, ⟨by rw [List.length_set]; exact S.en.len, fun j x s e1 e2 => ?_, fun q hq => S.en.dom q (hs q hq), fun j l q a b ne e1 e2 e3 e4 => ?_⟩, fun q hq => ?_, fun q hq => S.fr q (hs q hq), fun j es q e1 e2 => ?_⟩
  · rcases getSet e2 with ⟨z, e, _⟩ | ⟨ne, e⟩
    · subst z e
      rw [h1] at e1
      cases e1
      exact ⟨_, rfl, hv⟩
    · have q := S.en.sl j x s e1 e
      cases s with
      | no => trivial
      | pt a => exact q
      | val d => obtain ⟨v, a1, a2⟩ := q; exact ⟨v, a1, dp_ext (hide_less hs) a2⟩
      | own es =>
        obtain ⟨p', vs', a1, a2, a3, a4⟩ := q
        subst a1
        refine ⟨p', vs', rfl, List.mem_filter.mpr ⟨a2, decide_eq_true fun z => ?_⟩, a3, dpa_ext (hide_less hs) a4⟩
        subst z
        exact S.en.inj i j p' ds es ne h e h1 e1
  · rcases getSet e1 with ⟨_, z, _⟩ | ⟨_, f1⟩
    · cases z
    · rcases getSet e2 with ⟨_, z, _⟩ | ⟨_, f2⟩
      · cases z
      · exact S.en.inj j l q a b ne f1 f2 e3 e4
  · exact List.mem_filter.mpr ⟨S.sub q hq, decide_eq_true fun z => S.nw i ds p h h1 (z ▸ hq)⟩
  · rcases getSet e1 with ⟨_, z, _⟩ | ⟨_, f1⟩
    · cases z
    · exact S.nw j es q f1 e2
theorem dz_frz {X : Cx} {sts : List Stmt} {m : MS} (i : Nat) (h : PSs X sts (TZ m)) : PSs X sts (TZ (mFrz i m)) := pssW h fun D σ H ⟨B, O0, O, r, out, S, hm, P⟩ => by
  obtain ⟨ds, e1, hm⟩ := bind_some hm
  obtain ⟨O', S'⟩ := S.freeze (ownD_ok e1)
  exact ⟨B, O0, O', _, out, S', hm, P⟩
end Ly
set_option Elab.async false
set_option linter.all false
set_option maxRecDepth 100000
set_option maxHeartbeats 0
namespace Mf
open PySem PySem.Spec PyProof.Rows L2
def topS (i : Nat) : Stmt := PySem.Challenge.pw_mendfew_k81_whole_nested_and_crossed.main.body.getD i (.Pass ⟨0, 0, 0, 0⟩)
abbrev s_is_integer : Stmt := topS 3
abbrev s_is_number : Stmt := topS 4
abbrev s_is_prime : Stmt := topS 5
abbrev s_is_index : Stmt := topS 6
abbrev s_is_tuple_of : Stmt := topS 7
abbrev s_are_rests : Stmt := topS 8
abbrev s_is_sum_of : Stmt := topS 9
abbrev s_is_size : Stmt := topS 10
abbrev s_sums_fault : Stmt := topS 12
abbrev s_book_fault : Stmt := topS 13
abbrev s_want : Stmt := topS 19
abbrev s_want_book : Stmt := topS 20
abbrev s_is_from : Stmt := topS 22
abbrev s_want_prime : Stmt := topS 23
abbrev s_want_from : Stmt := topS 24
abbrev s_want_many : Stmt := topS 25
abbrev s_want_told : Stmt := topS 26
abbrev s_power_at : Stmt := topS 28
abbrev s_lessened_row : Stmt := topS 29
abbrev s_led_row : Stmt := topS 30
abbrev s_reduced_by : Stmt := topS 31
abbrev s_lead_of : Stmt := topS 32
abbrev s_kept_row : Stmt := topS 33
abbrev s_null_by : Stmt := topS 34
abbrev s_cut_rows : Stmt := topS 35
abbrev s_sums_in : Stmt := topS 37
abbrev s_book_of_words : Stmt := topS 38
abbrev s_prime_parts : Stmt := topS 40
abbrev s_primitive_by : Stmt := topS 41
abbrev s_numbers_by : Stmt := topS 42
abbrev s_power_rows : Stmt := topS 43
abbrev s_book_by_powers : Stmt := topS 44
abbrev s_classes_by : Stmt := topS 45
abbrev s_parted_classes : Stmt := topS 46
abbrev s_nested_exponents : Stmt := topS 48
abbrev s_want_nested : Stmt := topS 49
abbrev s_want_inner : Stmt := topS 50
abbrev s_want_wide_classes : Stmt := topS 51
abbrev s_nested_groups : Stmt := topS 52
abbrev s_nested_book : Stmt := topS 53
abbrev s_have_no_common : Stmt := topS 55
abbrev s_crossed_exponents : Stmt := topS 56
abbrev s_want_crossed : Stmt := topS 57
abbrev s_crossed_groups : Stmt := topS 58
abbrev s_crossed_book : Stmt := topS 59
abbrev s_lots_of : Stmt := topS 61
abbrev s_all_places : Stmt := topS 62
abbrev s_spread_row : Stmt := topS 63
abbrev s_words_on : Stmt := topS 65
abbrev s_least_words : Stmt := topS 66
abbrev s_apart_in : Stmt := topS 67
abbrev s_apart_of : Stmt := topS 69
abbrev s__law_feed : Stmt := topS 71
abbrev s__law_draw : Stmt := topS 72
abbrev s__law_pick : Stmt := topS 73
abbrev s__law_inverse : Stmt := topS 74
abbrev s__law_reduced : Stmt := topS 75
abbrev s__law_less : Stmt := topS 76
abbrev s__law_null : Stmt := topS 77
abbrev s__law_rank : Stmt := topS 78
abbrev s__law_words : Stmt := topS 79
abbrev s__law_lots : Stmt := topS 80
abbrev s__law_off : Stmt := topS 81
abbrev s__law_told_on : Stmt := topS 82
abbrev s__law_has_alone : Stmt := topS 83
abbrev s__law_apart : Stmt := topS 84
abbrev s__law_power_at : Stmt := topS 85
abbrev s__law_primitive : Stmt := topS 86
abbrev s__law_class_numbers : Stmt := topS 87
abbrev s__law_worths : Stmt := topS 88
abbrev s__law_group_right : Stmt := topS 89
abbrev s__law_far_enough : Stmt := topS 90
abbrev s__law_small_right : Stmt := topS 91
abbrev s__law_nested_right : Stmt := topS 92
abbrev s__law_crossed_right : Stmt := topS 93
abbrev s_law : Stmt := topS 94
def d_is_integer : He.DefD := ⟨("is_integer", none), "is_integer", "is_integer", defArgs s_is_integer, defBody s_is_integer, defScope s_is_integer, [], []⟩
def d_is_number : He.DefD := ⟨("is_number", none), "is_number", "is_number", defArgs s_is_number, defBody s_is_number, defScope s_is_number, [], []⟩
def d_is_prime : He.DefD := ⟨("is_prime", none), "is_prime", "is_prime", defArgs s_is_prime, defBody s_is_prime, defScope s_is_prime, [], []⟩
def d_is_index : He.DefD := ⟨("is_index", none), "is_index", "is_index", defArgs s_is_index, defBody s_is_index, defScope s_is_index, [], []⟩
def d_is_tuple_of : He.DefD := ⟨("is_tuple_of", none), "is_tuple_of", "is_tuple_of", defArgs s_is_tuple_of, defBody s_is_tuple_of, defScope s_is_tuple_of, [], []⟩
def d_are_rests : He.DefD := ⟨("are_rests", none), "are_rests", "are_rests", defArgs s_are_rests, defBody s_are_rests, defScope s_are_rests, [], []⟩
def d_is_sum_of : He.DefD := ⟨("is_sum_of", none), "is_sum_of", "is_sum_of", defArgs s_is_sum_of, defBody s_is_sum_of, defScope s_is_sum_of, [], []⟩
def d_is_size : He.DefD := ⟨("is_size", none), "is_size", "is_size", defArgs s_is_size, defBody s_is_size, defScope s_is_size, [], []⟩
def d_sums_fault : He.DefD := ⟨("sums_fault", none), "sums_fault", "sums_fault", defArgs s_sums_fault, defBody s_sums_fault, defScope s_sums_fault, [], []⟩
def d_book_fault : He.DefD := ⟨("book_fault", none), "book_fault", "book_fault", defArgs s_book_fault, defBody s_book_fault, defScope s_book_fault, [], []⟩
def d_want : He.DefD := ⟨("want", none), "want", "want", defArgs s_want, defBody s_want, defScope s_want, [.int (-1)], []⟩
def d_want_book : He.DefD := ⟨("want_book", none), "want_book", "want_book", defArgs s_want_book, defBody s_want_book, defScope s_want_book, [.str "book"], []⟩
def d_is_from : He.DefD := ⟨("is_from", none), "is_from", "is_from", defArgs s_is_from, defBody s_is_from, defScope s_is_from, [], []⟩
def d_want_prime : He.DefD := ⟨("want_prime", none), "want_prime", "want_prime", defArgs s_want_prime, defBody s_want_prime, defScope s_want_prime, [], []⟩
def d_want_from : He.DefD := ⟨("want_from", none), "want_from", "want_from", defArgs s_want_from, defBody s_want_from, defScope s_want_from, [], []⟩
def d_want_many : He.DefD := ⟨("want_many", none), "want_many", "want_many", defArgs s_want_many, defBody s_want_many, defScope s_want_many, [], []⟩
def d_want_told : He.DefD := ⟨("want_told", none), "want_told", "want_told", defArgs s_want_told, defBody s_want_told, defScope s_want_told, [], []⟩
def d_power_at : He.DefD := ⟨("power_at", none), "power_at", "power_at", defArgs s_power_at, defBody s_power_at, defScope s_power_at, [], []⟩
def d_lessened_row : He.DefD := ⟨("lessened_row", none), "lessened_row", "lessened_row", defArgs s_lessened_row, defBody s_lessened_row, defScope s_lessened_row, [], []⟩
def d_led_row : He.DefD := ⟨("led_row", none), "led_row", "led_row", defArgs s_led_row, defBody s_led_row, defScope s_led_row, [], []⟩
def d_reduced_by : He.DefD := ⟨("reduced_by", none), "reduced_by", "reduced_by", defArgs s_reduced_by, defBody s_reduced_by, defScope s_reduced_by, [], []⟩
def d_lead_of : He.DefD := ⟨("lead_of", none), "lead_of", "lead_of", defArgs s_lead_of, defBody s_lead_of, defScope s_lead_of, [], []⟩
def d_kept_row : He.DefD := ⟨("kept_row", none), "kept_row", "kept_row", defArgs s_kept_row, defBody s_kept_row, defScope s_kept_row, [], []⟩
def d_null_by : He.DefD := ⟨("null_by", none), "null_by", "null_by", defArgs s_null_by, defBody s_null_by, defScope s_null_by, [], []⟩
def d_cut_rows : He.DefD := ⟨("cut_rows", none), "cut_rows", "cut_rows", defArgs s_cut_rows, defBody s_cut_rows, defScope s_cut_rows, [], []⟩
def d_sums_in : He.DefD := ⟨("sums_in", none), "sums_in", "sums_in", defArgs s_sums_in, defBody s_sums_in, defScope s_sums_in, [], []⟩
def d_book_of_words : He.DefD := ⟨("book_of_words", none), "book_of_words", "book_of_words", defArgs s_book_of_words, defBody s_book_of_words, defScope s_book_of_words, [], []⟩
def d_prime_parts : He.DefD := ⟨("prime_parts", none), "prime_parts", "prime_parts", defArgs s_prime_parts, defBody s_prime_parts, defScope s_prime_parts, [], []⟩
def d_primitive_by : He.DefD := ⟨("primitive_by", none), "primitive_by", "primitive_by", defArgs s_primitive_by, defBody s_primitive_by, defScope s_primitive_by, [], []⟩
def d_numbers_by : He.DefD := ⟨("numbers_by", none), "numbers_by", "numbers_by", defArgs s_numbers_by, defBody s_numbers_by, defScope s_numbers_by, [], []⟩
def d_power_rows : He.DefD := ⟨("power_rows", none), "power_rows", "power_rows", defArgs s_power_rows, defBody s_power_rows, defScope s_power_rows, [], []⟩
def d_book_by_powers : He.DefD := ⟨("book_by_powers", none), "book_by_powers", "book_by_powers", defArgs s_book_by_powers, defBody s_book_by_powers, defScope s_book_by_powers, [], []⟩
def d_classes_by : He.DefD := ⟨("classes_by", none), "classes_by", "classes_by", defArgs s_classes_by, defBody s_classes_by, defScope s_classes_by, [], []⟩
def d_parted_classes : He.DefD := ⟨("parted_classes", none), "parted_classes", "parted_classes", defArgs s_parted_classes, defBody s_parted_classes, defScope s_parted_classes, [], []⟩
def d_nested_exponents : He.DefD := ⟨("nested_exponents", none), "nested_exponents", "nested_exponents", defArgs s_nested_exponents, defBody s_nested_exponents, defScope s_nested_exponents, [], []⟩
def d_want_nested : He.DefD := ⟨("want_nested", none), "want_nested", "want_nested", defArgs s_want_nested, defBody s_want_nested, defScope s_want_nested, [], []⟩
def d_want_inner : He.DefD := ⟨("want_inner", none), "want_inner", "want_inner", defArgs s_want_inner, defBody s_want_inner, defScope s_want_inner, [], []⟩
def d_want_wide_classes : He.DefD := ⟨("want_wide_classes", none), "want_wide_classes", "want_wide_classes", defArgs s_want_wide_classes, defBody s_want_wide_classes, defScope s_want_wide_classes, [], []⟩
def d_nested_groups : He.DefD := ⟨("nested_groups", none), "nested_groups", "nested_groups", defArgs s_nested_groups, defBody s_nested_groups, defScope s_nested_groups, [], []⟩
def d_nested_book : He.DefD := ⟨("nested_book", none), "nested_book", "nested_book", defArgs s_nested_book, defBody s_nested_book, defScope s_nested_book, [], []⟩
def d_have_no_common : He.DefD := ⟨("have_no_common", none), "have_no_common", "have_no_common", defArgs s_have_no_common, defBody s_have_no_common, defScope s_have_no_common, [], []⟩
def d_crossed_exponents : He.DefD := ⟨("crossed_exponents", none), "crossed_exponents", "crossed_exponents", defArgs s_crossed_exponents, defBody s_crossed_exponents, defScope s_crossed_exponents, [], []⟩
def d_want_crossed : He.DefD := ⟨("want_crossed", none), "want_crossed", "want_crossed", defArgs s_want_crossed, defBody s_want_crossed, defScope s_want_crossed, [], []⟩
def d_crossed_groups : He.DefD := ⟨("crossed_groups", none), "crossed_groups", "crossed_groups", defArgs s_crossed_groups, defBody s_crossed_groups, defScope s_crossed_groups, [], []⟩
def d_crossed_book : He.DefD := ⟨("crossed_book", none), "crossed_book", "crossed_book", defArgs s_crossed_book, defBody s_crossed_book, defScope s_crossed_book, [], []⟩
def d_lots_of : He.DefD := ⟨("lots_of", none), "lots_of", "lots_of", defArgs s_lots_of, defBody s_lots_of, defScope s_lots_of, [], []⟩
def d_all_places : He.DefD := ⟨("all_places", none), "all_places", "all_places", defArgs s_all_places, defBody s_all_places, defScope s_all_places, [], []⟩
def d_spread_row : He.DefD := ⟨("spread_row", none), "spread_row", "spread_row", defArgs s_spread_row, defBody s_spread_row, defScope s_spread_row, [], []⟩
def d_words_on : He.DefD := ⟨("words_on", none), "words_on", "words_on", defArgs s_words_on, defBody s_words_on, defScope s_words_on, [], []⟩
def d_least_words : He.DefD := ⟨("least_words", none), "least_words", "least_words", defArgs s_least_words, defBody s_least_words, defScope s_least_words, [], []⟩
def d_apart_in : He.DefD := ⟨("apart_in", none), "apart_in", "apart_in", defArgs s_apart_in, defBody s_apart_in, defScope s_apart_in, [], []⟩
def d_apart_of : He.DefD := ⟨("apart_of", none), "apart_of", "apart_of", defArgs s_apart_of, defBody s_apart_of, defScope s_apart_of, [], []⟩
def d__law_feed : He.DefD := ⟨("_law_feed", none), "_law_feed", "_law_feed", defArgs s__law_feed, defBody s__law_feed, defScope s__law_feed, [], []⟩
def d__law_draw : He.DefD := ⟨("_law_draw", none), "_law_draw", "_law_draw", defArgs s__law_draw, defBody s__law_draw, defScope s__law_draw, [], []⟩
def d__law_pick : He.DefD := ⟨("_law_pick", none), "_law_pick", "_law_pick", defArgs s__law_pick, defBody s__law_pick, defScope s__law_pick, [], []⟩
def d__law_inverse : He.DefD := ⟨("_law_inverse", none), "_law_inverse", "_law_inverse", defArgs s__law_inverse, defBody s__law_inverse, defScope s__law_inverse, [], []⟩
def d__law_reduced : He.DefD := ⟨("_law_reduced", none), "_law_reduced", "_law_reduced", defArgs s__law_reduced, defBody s__law_reduced, defScope s__law_reduced, [], []⟩
def d__law_less : He.DefD := ⟨("_law_less", none), "_law_less", "_law_less", defArgs s__law_less, defBody s__law_less, defScope s__law_less, [], []⟩
def d__law_null : He.DefD := ⟨("_law_null", none), "_law_null", "_law_null", defArgs s__law_null, defBody s__law_null, defScope s__law_null, [], []⟩
def d__law_rank : He.DefD := ⟨("_law_rank", none), "_law_rank", "_law_rank", defArgs s__law_rank, defBody s__law_rank, defScope s__law_rank, [], []⟩
def d__law_words : He.DefD := ⟨("_law_words", none), "_law_words", "_law_words", defArgs s__law_words, defBody s__law_words, defScope s__law_words, [], []⟩
def d__law_lots : He.DefD := ⟨("_law_lots", none), "_law_lots", "_law_lots", defArgs s__law_lots, defBody s__law_lots, defScope s__law_lots, [], []⟩
def d__law_off : He.DefD := ⟨("_law_off", none), "_law_off", "_law_off", defArgs s__law_off, defBody s__law_off, defScope s__law_off, [], []⟩
def d__law_told_on : He.DefD := ⟨("_law_told_on", none), "_law_told_on", "_law_told_on", defArgs s__law_told_on, defBody s__law_told_on, defScope s__law_told_on, [], []⟩
def d__law_has_alone : He.DefD := ⟨("_law_has_alone", none), "_law_has_alone", "_law_has_alone", defArgs s__law_has_alone, defBody s__law_has_alone, defScope s__law_has_alone, [], []⟩
def d__law_apart : He.DefD := ⟨("_law_apart", none), "_law_apart", "_law_apart", defArgs s__law_apart, defBody s__law_apart, defScope s__law_apart, [], []⟩
def d__law_power_at : He.DefD := ⟨("_law_power_at", none), "_law_power_at", "_law_power_at", defArgs s__law_power_at, defBody s__law_power_at, defScope s__law_power_at, [], []⟩
def d__law_primitive : He.DefD := ⟨("_law_primitive", none), "_law_primitive", "_law_primitive", defArgs s__law_primitive, defBody s__law_primitive, defScope s__law_primitive, [], []⟩
def d__law_class_numbers : He.DefD := ⟨("_law_class_numbers", none), "_law_class_numbers", "_law_class_numbers", defArgs s__law_class_numbers, defBody s__law_class_numbers, defScope s__law_class_numbers, [], []⟩
def d__law_worths : He.DefD := ⟨("_law_worths", none), "_law_worths", "_law_worths", defArgs s__law_worths, defBody s__law_worths, defScope s__law_worths, [], []⟩
def d__law_group_right : He.DefD := ⟨("_law_group_right", none), "_law_group_right", "_law_group_right", defArgs s__law_group_right, defBody s__law_group_right, defScope s__law_group_right, [], []⟩
def d__law_far_enough : He.DefD := ⟨("_law_far_enough", none), "_law_far_enough", "_law_far_enough", defArgs s__law_far_enough, defBody s__law_far_enough, defScope s__law_far_enough, [], []⟩
def d__law_small_right : He.DefD := ⟨("_law_small_right", none), "_law_small_right", "_law_small_right", defArgs s__law_small_right, defBody s__law_small_right, defScope s__law_small_right, [], []⟩
def d__law_nested_right : He.DefD := ⟨("_law_nested_right", none), "_law_nested_right", "_law_nested_right", defArgs s__law_nested_right, defBody s__law_nested_right, defScope s__law_nested_right, [], []⟩
def d__law_crossed_right : He.DefD := ⟨("_law_crossed_right", none), "_law_crossed_right", "_law_crossed_right", defArgs s__law_crossed_right, defBody s__law_crossed_right, defScope s__law_crossed_right, [], []⟩
def d_law : He.DefD := ⟨("law", none), "law", "law", defArgs s_law, defBody s_law, defScope s_law, [], []⟩
def fnL : List He.DefD := [d_is_integer, d_is_number, d_is_prime, d_is_index, d_is_tuple_of, d_are_rests, d_is_sum_of, d_is_size, d_sums_fault, d_book_fault, d_want, d_want_book, d_is_from, d_want_prime, d_want_from, d_want_many, d_want_told, d_power_at, d_lessened_row, d_led_row, d_reduced_by, d_lead_of, d_kept_row, d_null_by, d_cut_rows, d_sums_in, d_book_of_words, d_prime_parts, d_primitive_by, d_numbers_by, d_power_rows, d_book_by_powers, d_classes_by, d_parted_classes, d_nested_exponents, d_want_nested, d_want_inner, d_want_wide_classes, d_nested_groups, d_nested_book, d_have_no_common, d_crossed_exponents, d_want_crossed, d_crossed_groups, d_crossed_book, d_lots_of, d_all_places, d_spread_row, d_words_on, d_least_words, d_apart_in, d_apart_of, d__law_feed, d__law_draw, d__law_pick, d__law_inverse, d__law_reduced, d__law_less, d__law_null, d__law_rank, d__law_words, d__law_lots, d__law_off, d__law_told_on, d__law_has_alone, d__law_apart, d__law_power_at, d__law_primitive, d__law_class_numbers, d__law_worths, d__law_group_right, d__law_far_enough, d__law_small_right, d__law_nested_right, d__law_crossed_right, d_law]
def faL : List He.Fa := [.glo "is_integer", .glo "is_number", .glo "is_prime", .glo "is_index", .glo "is_tuple_of", .glo "are_rests", .glo "is_sum_of", .glo "is_size", .glo "sums_fault", .glo "book_fault", .glo "want", .glo "want_book", .glo "is_from", .glo "want_prime", .glo "want_from", .glo "want_many", .glo "want_told", .glo "power_at", .glo "lessened_row", .glo "led_row", .glo "reduced_by", .glo "lead_of", .glo "kept_row", .glo "null_by", .glo "cut_rows", .glo "sums_in", .glo "book_of_words", .glo "prime_parts", .glo "primitive_by", .glo "numbers_by", .glo "power_rows", .glo "book_by_powers", .glo "classes_by", .glo "parted_classes", .glo "nested_exponents", .glo "want_nested", .glo "want_inner", .glo "want_wide_classes", .glo "nested_groups", .glo "nested_book", .glo "have_no_common", .glo "crossed_exponents", .glo "want_crossed", .glo "crossed_groups", .glo "crossed_book", .glo "lots_of", .glo "all_places", .glo "spread_row", .glo "words_on", .glo "least_words", .glo "apart_in", .glo "apart_of", .glo "_law_feed", .glo "_law_draw", .glo "_law_pick", .glo "_law_inverse", .glo "_law_reduced", .glo "_law_less", .glo "_law_null", .glo "_law_rank", .glo "_law_words", .glo "_law_lots", .glo "_law_off", .glo "_law_told_on", .glo "_law_has_alone", .glo "_law_apart", .glo "_law_power_at", .glo "_law_primitive", .glo "_law_class_numbers", .glo "_law_worths", .glo "_law_group_right", .glo "_law_far_enough", .glo "_law_small_right", .glo "_law_nested_right", .glo "_law_crossed_right", .glo "law", .int "TOP" 1000000, .int "MOST_SIZE" 100, .free "isinstance", .free "int", .free "bool", .free "tuple", .free "len", .free "all", .free "any", .free "enumerate", .free "range", .free "list", .free "zip", .free "sorted", .free "set"]
end Mf
set_option Elab.async false
set_option linter.all false
set_option maxRecDepth 100000
set_option maxHeartbeats 0
namespace Mf
open PySem PySem.Spec PyProof.Rows L2
abbrev RwL : PySem.W.OpenRow := PySem.W.OpenLaw.row PySem.Challenge.rw_mendfew_k81_whole_nested_and_crossed
abbrev hkL : PySem.W.Hook := He.hookD 4 faL fnL
def obL (s : PySem.W.SharedT) : He.AlD := He.obsDG 4 faL fnL (HandSHeadRun.getT s)
theorem obL_eq (s : PySem.W.SharedT) : obL s = hkL.obs s.abs := He.obsDG_eq (HandSHeadRun.getT_eq s)
def nm0 : List PySem.Str := ["TOP", "MOST_SIZE", "is_integer", "is_number", "is_prime", "is_index", "is_tuple_of", "are_rests", "is_sum_of", "is_size", "sums_fault", "book_fault", "MendError", "BookError", "NotUsable", "want", "want_book", "is_from", "want_prime", "want_from", "want_many", "want_told", "power_at", "lessened_row", "led_row", "reduced_by", "lead_of", "kept_row", "null_by", "cut_rows"]
def nm1 : List PySem.Str := ["sums_in", "book_of_words", "prime_parts", "primitive_by", "numbers_by", "power_rows", "book_by_powers", "classes_by", "parted_classes", "nested_exponents", "want_nested", "want_inner", "want_wide_classes", "nested_groups", "nested_book", "have_no_common", "crossed_exponents", "want_crossed", "crossed_groups", "crossed_book", "lots_of", "all_places", "spread_row", "words_on", "least_words", "apart_in", "apart_of", "_law_feed", "_law_draw", "_law_pick"]
def nm2 : List PySem.Str := ["_law_inverse", "_law_reduced", "_law_less", "_law_null", "_law_rank", "_law_words", "_law_lots", "_law_off", "_law_told_on", "_law_has_alone", "_law_apart", "_law_power_at", "_law_primitive", "_law_class_numbers", "_law_worths", "_law_group_right", "_law_far_enough", "_law_small_right", "_law_nested_right", "_law_crossed_right"]
def nmL : List PySem.Str := nm0 ++ nm1 ++ nm2
theorem runL (w : World) : HandSHeadRun.RunEq RwL (PySem.W.view RwL.prog [94]) hkL obL 4000 nmL w := by
  intro os
  kernel_rfl
end Mf
set_option Elab.async false
set_option linter.all false
set_option maxRecDepth 100000
set_option maxHeartbeats 4000000
namespace Mf
open PySem PySem.Spec PyProof.Rows L2 Ly
/-- the text's own facts -/
structure Tx (K : PySem.W.Frag) (mg : PySem.Str → Option Value) : Prop where
  ex : ∃ h : Heap, K.In h ∧ h.Ns mainGlobals mg ∧ He.SaysD faL fnL K
section
variable {P : Program} {w : World} {K : PySem.W.Frag} {mg : PySem.Str → Option Value} {base : Heap}
theorem Tx.free (T : Tx K mg) (i : Nat) {x : PySem.Str} (h : faL[i]? = some (.free x) := by rfl) : mg x = none := by
  obtain ⟨h', X, G, c⟩ := T.ex
  exact He.free_ok X G (c.fact i h)
theorem Tx.int (T : Tx K mg) (i : Nat) {x : PySem.Str} {n : Int} (h : faL[i]? = some (.int x n) := by rfl) : ∃ t, mg x = some (.int n t) := by
  obtain ⟨h', X, G, c⟩ := T.ex
  exact He.int_ok X G (c.fact i h)
theorem Tx.glo (T : Tx K mg) (i : Nat) {x : PySem.Str} (h : faL[i]? = some (.glo x) := by rfl) : mg x = some (.ref (He.ga K x)) := by
  obtain ⟨h', X, G, c⟩ := T.ex
  exact He.glo_ok X G (c.fact i h)
theorem Tx.def_ (T : Tx K mg) (i : Nat) {d : He.DefD} (h : fnL[i]? = some d := by rfl) : ∃ fd, FunD K d.name d.qual d.params d.body d.scope (d.dvs K) (d.kws K) (He.fAd K d.at_) fd := by
  obtain ⟨h', X, G, c⟩ := T.ex
  exact c.def_ i h
abbrev Body (P : Program) (w : World) (K : PySem.W.Frag) (mg : PySem.Str → Option Value) (base : Heap) (k : Nat) (d : He.DefD) (N : List PySem.Str) (m : MS) : Prop :=
  ∀ (f : Addr) (cdv : Value) (A : Around) (outer : List Env) (s : Shared) (H : Hp) (E : XK), Room k (A.deeper (envOfC d.qual d.scope s.heap.objs.size f cdv)) → PSs (cxOf CX0 P w K mg base N d.qual d.scope f cdv A outer s H E).nox d.body (TZ m)
theorem Tx.mk_ (T : Tx K mg) (i : Nat) (d : He.DefD) {N ps : List PySem.Str} {k : Nat} {m : MS} (S : FnScope N ps d.scope)
    (hb : ∀ (kV doc pm : Value) (an : Option Addr) (cdv ct : Value) (us : List Value), us.length = ps.length → bindArgs (PySem.W.fnOf d.name d.qual d.params d.body d.scope .none kV doc pm an cdv ct) ⟨us, []⟩ = pure (ps.zip us))
    (body : Body P w K mg base k d N m)
    (hd : fnL[i]? = some d := by rfl) (hg : faL[i]? = some (.glo d.name) := by rfl) (hat : d.at_ = (d.name, none) := by rfl) (h1 : d.dfl = [] := by rfl) : Fn P w K mg base (k + 1) d.name ps [] (mFn ps.length N.length m) := by
  obtain ⟨fd, F⟩ := T.def_ i hd
  have e : He.fAd K d.at_ = He.ga K d.name := by rw [hat]; rfl
  have e2 : d.dvs K = [] := by unfold He.DefD.dvs; rw [h1]; rfl
  rw [e2] at F
  exact ⟨He.fAd K d.at_, fd, [], fn_ok F S fun cdv A outer s H E hr => body _ cdv A outer s H E hr, by rw [e]; exact T.glo i hg, F.kp, F.bindsN hb, .nil⟩
theorem Tx.mkD (T : Tx K mg) (i : Nat) (d : He.DefD) {N ps : List PySem.Str} {k : Nat} {m : MS} {dv : V} (n : Nat) (S : FnScope N ps d.scope) (hdv : d.dvs K = [dv]) (hn : n + 1 = ps.length)
    (hb : ∀ (T : Addr) (kV doc pm : Value) (an : Option Addr) (cdv ct : Value) (us its : List Value), us.length = n → its.length = 1 → ∃ k, bindArgs (PySem.W.fnOf d.name d.qual d.params d.body d.scope (.ref T) kV doc pm an cdv ct) ⟨us, []⟩ = seqItems? (.ref T) >>= k ∧ k (some its.toArray) = pure (ps.zip (us ++ its.drop 0)))
    (body : Body P w K mg base k d N m)
    (hd : fnL[i]? = some d := by rfl) (hg : faL[i]? = some (.glo d.name) := by rfl) (hat : d.at_ = (d.name, none) := by rfl) : Fn P w K mg base (k + 1) d.name ps [dv] (mFn ps.length N.length m) := by
  obtain ⟨fd, F⟩ := T.def_ i hd
  have e : He.fAd K d.at_ = He.ga K d.name := by rw [hat]; rfl
  rw [hdv] at F
  obtain ⟨ds, v, b⟩ := F.binds1 n 0 (by simp) (by simpa using hn) hb
  exact ⟨He.fAd K d.at_, fd, ds, fn_ok F S fun cdv A outer s H E hr => body _ cdv A outer s H E hr, by rw [e]; exact T.glo i hg, F.kp, b, v⟩
end
end Mf
set_option Elab.async false
set_option linter.all false
set_option maxRecDepth 100000
set_option maxHeartbeats 4000000
namespace Mf
open PySem PySem.Spec PyProof.Rows L2 Ly
def n_is_integer : List PySem.Str := ["thing"]
theorem sc_is_integer : FnScope n_is_integer ["thing"] (defScope s_is_integer) := ⟨rfl, rfl, rfl, by decide +kernel, rfl, by decide +kernel, by decide +kernel⟩
def b_is_integer : MS := (mRet (mAnd (mIsi "int" (mVar 0)) (mNot (mIsi "bool" (mVar 0)))))
def m_is_integer : List PyData → Option PyData := mFn 1 1 b_is_integer
theorem ok_is_integer {P : Program} {w : World} {K : PySem.W.Frag} {mg : PySem.Str → Option Value} {base : Heap} (T : Tx K mg) : Fn P w K mg base 1 "is_integer" ["thing"] [] m_is_integer :=
  T.mk_ 0 d_is_integer sc_is_integer (fun _ _ _ _ _ _ us hl => match us, hl with | [_], _ => rfl) fun f cdv A outer s H E hr =>
    (dz_one (ds_ret (dr_e (de_and (de_isi (T := "int") (by rfl) (T.free 78) (by rfl) (T.free 79) (by decide +kernel) (de_var 0)) (de_one (de_not (de_isi (T := "bool") (by rfl) (T.free 78) (by rfl) (T.free 80) (by decide +kernel) (de_var 0))))))))
def n_is_number : List PySem.Str := ["thing"]
theorem sc_is_number : FnScope n_is_number ["thing"] (defScope s_is_number) := ⟨rfl, rfl, rfl, by decide +kernel, rfl, by decide +kernel, by decide +kernel⟩
def b_is_number : MS := (mRet (mAnd (mCall m_is_integer (mCons (mVar 0) mNil)) (bE (mCmpB pGe (mVar 0) (mC (.int 0))))))
def m_is_number : List PyData → Option PyData := mFn 1 1 b_is_number
theorem ok_is_number {P : Program} {w : World} {K : PySem.W.Frag} {mg : PySem.Str → Option Value} {base : Heap} (T : Tx K mg) : Fn P w K mg base 2 "is_number" ["thing"] [] m_is_number :=
  T.mk_ 1 d_is_number sc_is_number (fun _ _ _ _ _ _ us hl => match us, hl with | [_], _ => rfl) fun f cdv A outer s H E hr =>
    (dz_one (ds_ret (dr_e (de_and (de_call (ok_is_integer T) hr (by decide) (by rfl) (da_cons (de_var 0) da_nil)) (de_one (de_ge (de_var 0) de_int))))))
def n_is_prime : List PySem.Str := ["thing", "part"]
theorem sc_is_prime : FnScope n_is_prime ["thing"] (defScope s_is_prime) := ⟨rfl, rfl, rfl, by decide +kernel, rfl, by decide +kernel, by decide +kernel⟩
def b_is_prime : MS := (mSeq2 (mIfS (mOrB (mNotB (bM (mCall m_is_number (mCons (mVar 0) mNil)))) (mNotB (mChainB pLt pLt (mC (.int 1)) (mVar 0) (mC (.int 1000000))))) (mRet (mC (.bool false))) mSkip) (mSeq2 (mSet 1 (mC (.int 2))) (mSeq2 (mWhile 1000 (mCmpB pLe (mBin gMul (mVar 1) (mVar 1)) (mVar 0)) (mSeq2 (mIfS (mCmpB pEq (mBin gMod (mVar 0) (mVar 1)) (mC (.int 0))) (mRet (mC (.bool false))) mSkip) (mSet 1 (mBin gAdd (mVar 1) (mC (.int 1)))))) (mRet (mC (.bool true))))))
def m_is_prime : List PyData → Option PyData := mFn 1 2 b_is_prime
theorem ok_is_prime {P : Program} {w : World} {K : PySem.W.Frag} {mg : PySem.Str → Option Value} {base : Heap} (T : Tx K mg) : Fn P w K mg base 3 "is_prime" ["thing"] [] m_is_prime :=
  T.mk_ 2 d_is_prime sc_is_prime (fun _ _ _ _ _ _ us hl => match us, hl with | [_], _ => rfl) fun f cdv A outer s H E hr =>
    (dz_cons (ds_if (dt_q (dq_or (dt_not (dt_val (de_call (ok_is_number T) hr (by decide) (by rfl) (da_cons (de_var 0) da_nil)))) (dq_or1 (dt_not (dt_ltlt de_int (de_var 0) (de_globI (by rfl) (T.int 76))))))) (dz_one (ds_ret (dr_e de_bl))) dz_nil) (dz_cons (ds_set (i := 1) sc_is_prime.nd rfl (by first | exact Or.inl rfl | exact Or.inr rfl) de_int) (dz_cons (ds_while 1000 PassesOwn.never (dt_le (de_mul (de_var 1) (de_var 1)) (de_var 0)) (dz_cons (ds_if (dt_eq (de_mod (de_var 0) (de_var 1)) de_int) (dz_one (ds_ret (dr_e de_bl))) dz_nil) (dz_one (ds_set (i := 1) sc_is_prime.nd rfl (by first | exact Or.inl rfl | exact Or.inr rfl) (de_add (de_var 1) de_int))))) (dz_one (ds_ret (dr_e de_bl))))))
def n_is_index : List PySem.Str := ["many", "thing"]
theorem sc_is_index : FnScope n_is_index ["many", "thing"] (defScope s_is_index) := ⟨rfl, rfl, rfl, by decide +kernel, rfl, by decide +kernel, by decide +kernel⟩
def b_is_index : MS := (mRet (mAnd (mCall m_is_number (mCons (mVar 1) mNil)) (bE (mCmpB pLt (mVar 1) (mVar 0)))))
def m_is_index : List PyData → Option PyData := mFn 2 2 b_is_index
theorem ok_is_index {P : Program} {w : World} {K : PySem.W.Frag} {mg : PySem.Str → Option Value} {base : Heap} (T : Tx K mg) : Fn P w K mg base 3 "is_index" ["many", "thing"] [] m_is_index :=
  T.mk_ 3 d_is_index sc_is_index (fun _ _ _ _ _ _ us hl => match us, hl with | [_, _], _ => rfl) fun f cdv A outer s H E hr =>
    (dz_one (ds_ret (dr_e (de_and (de_call (ok_is_number T) hr (by decide) (by rfl) (da_cons (de_var 1) da_nil)) (de_one (de_lt (de_var 1) (de_var 0)))))))
def n_is_tuple_of : List PySem.Str := ["thing", "many"]
theorem sc_is_tuple_of : FnScope n_is_tuple_of ["thing", "many"] (defScope s_is_tuple_of) := ⟨rfl, rfl, rfl, by decide +kernel, rfl, by decide +kernel, by decide +kernel⟩
def b_is_tuple_of : MS := (mRet (mAnd (mIsi "tuple" (mVar 0)) (bE (mCmpB pEq (mLen (mVar 0)) (mVar 1)))))
def m_is_tuple_of : List PyData → Option PyData := mFn 2 2 b_is_tuple_of
theorem ok_is_tuple_of {P : Program} {w : World} {K : PySem.W.Frag} {mg : PySem.Str → Option Value} {base : Heap} (T : Tx K mg) : Fn P w K mg base 1 "is_tuple_of" ["thing", "many"] [] m_is_tuple_of :=
  T.mk_ 4 d_is_tuple_of sc_is_tuple_of (fun _ _ _ _ _ _ us hl => match us, hl with | [_, _], _ => rfl) fun f cdv A outer s H E hr =>
    (dz_one (ds_ret (dr_e (de_and (de_isi (T := "tuple") (by rfl) (T.free 78) (by rfl) (T.free 81) (by decide +kernel) (de_var 0)) (de_one (de_eq (de_len (by rfl) (T.free 82) (de_w (de_var 0))) (de_var 1)))))))
def n_are_rests : List PySem.Str := ["prime", "many", "thing", "one"]
theorem sc_are_rests : FnScope n_are_rests ["prime", "many", "thing"] (defScope s_are_rests) := ⟨rfl, rfl, rfl, by decide +kernel, rfl, by decide +kernel, by decide +kernel⟩
def b_are_rests : MS := (mRet (mAnd (mCall m_is_tuple_of (mCons (mVar 2) (mCons (mVar 1) mNil))) (mBools (fun bs => bs.all id) (lM (mLc (mSeq (mVar 2)) (.nm 3) mYes (mCall m_is_index (mCons (mVar 0) (mCons (mVar 3) mNil))) [3])))))
def m_are_rests : List PyData → Option PyData := mFn 3 4 b_are_rests
theorem ok_are_rests {P : Program} {w : World} {K : PySem.W.Frag} {mg : PySem.Str → Option Value} {base : Heap} (T : Tx K mg) : Fn P w K mg base 4 "are_rests" ["prime", "many", "thing"] [] m_are_rests :=
  T.mk_ 5 d_are_rests sc_are_rests (fun _ _ _ _ _ _ us hl => match us, hl with | [_, _, _], _ => rfl) fun f cdv A outer s H E hr =>
    (dz_one (ds_ret (dr_e (de_and (de_call (ok_is_tuple_of T) hr (by decide) (by rfl) (da_cons (de_var 2) (da_cons (de_var 1) da_nil))) (de_one (de_all (by rfl) (T.free 83) rfl (dn_w (dn_lc (own := [("one", 3)]) rfl sc_are_rests.nd (di_seq (de_var 2)) (blkOk_by (N := n_are_rests) (sc := defScope s_are_rests) (by decide +kernel)) (fun _ _ _ _ _ => (pg_name (i := 3) sc_are_rests.nd rfl (by first | exact Or.inl rfl | exact Or.inr rfl))) (fun _ _ _ _ _ => dp_nil) (fun _ _ _ _ _ => (de_call (ok_is_index T) hr (by decide) (by rfl) (da_cons (de_var 0) (da_cons (de_var 3) da_nil)))) (by decide)))))))))
def n_is_sum_of : List PySem.Str := ["prime", "many", "thing", "one"]
theorem sc_is_sum_of : FnScope n_is_sum_of ["prime", "many", "thing"] (defScope s_is_sum_of) := ⟨rfl, rfl, rfl, by decide +kernel, rfl, by decide +kernel, by decide +kernel⟩
def b_is_sum_of : MS := (mRet (mAnd (mCall m_are_rests (mCons (mVar 0) (mCons (mVar 1) (mCons (mVar 2) mNil)))) (mBools (fun bs => bs.any id) (lM (mLc (mSeq (mVar 2)) (.nm 3) mYes (bE (mCmpB pGt (mVar 3) (mC (.int 0)))) [3])))))
def m_is_sum_of : List PyData → Option PyData := mFn 3 4 b_is_sum_of
theorem ok_is_sum_of {P : Program} {w : World} {K : PySem.W.Frag} {mg : PySem.Str → Option Value} {base : Heap} (T : Tx K mg) : Fn P w K mg base 5 "is_sum_of" ["prime", "many", "thing"] [] m_is_sum_of :=
  T.mk_ 6 d_is_sum_of sc_is_sum_of (fun _ _ _ _ _ _ us hl => match us, hl with | [_, _, _], _ => rfl) fun f cdv A outer s H E hr =>
    (dz_one (ds_ret (dr_e (de_and (de_call (ok_are_rests T) hr (by decide) (by rfl) (da_cons (de_var 0) (da_cons (de_var 1) (da_cons (de_var 2) da_nil)))) (de_one (de_any (by rfl) (T.free 84) rfl (dn_w (dn_lc (own := [("one", 3)]) rfl sc_is_sum_of.nd (di_seq (de_var 2)) (blkOk_by (N := n_is_sum_of) (sc := defScope s_is_sum_of) (by decide +kernel)) (fun _ _ _ _ _ => (pg_name (i := 3) sc_is_sum_of.nd rfl (by first | exact Or.inl rfl | exact Or.inr rfl))) (fun _ _ _ _ _ => dp_nil) (fun _ _ _ _ _ => (de_gt (de_var 3) de_int)) (by decide)))))))))
def n_is_size : List PySem.Str := ["thing"]
theorem sc_is_size : FnScope n_is_size ["thing"] (defScope s_is_size) := ⟨rfl, rfl, rfl, by decide +kernel, rfl, by decide +kernel, by decide +kernel⟩
def b_is_size : MS := (mRet (mAnd (mCall m_is_number (mCons (mVar 0) mNil)) (bE (mChainB pLt pLe (mC (.int 0)) (mVar 0) (mC (.int 100))))))
def m_is_size : List PyData → Option PyData := mFn 1 1 b_is_size
theorem ok_is_size {P : Program} {w : World} {K : PySem.W.Frag} {mg : PySem.Str → Option Value} {base : Heap} (T : Tx K mg) : Fn P w K mg base 3 "is_size" ["thing"] [] m_is_size :=
  T.mk_ 7 d_is_size sc_is_size (fun _ _ _ _ _ _ us hl => match us, hl with | [_], _ => rfl) fun f cdv A outer s H E hr =>
    (dz_one (ds_ret (dr_e (de_and (de_call (ok_is_number T) hr (by decide) (by rfl) (da_cons (de_var 0) da_nil)) (de_one (de_ltle de_int (de_var 0) (de_globI (by rfl) (T.int 77))))))))
def n_sums_fault : List PySem.Str := ["prime", "size", "thing", "k", "numbers"]
theorem sc_sums_fault : FnScope n_sums_fault ["prime", "size", "thing"] (defScope s_sums_fault) := ⟨rfl, rfl, rfl, by decide +kernel, rfl, by decide +kernel, by decide +kernel⟩
def b_sums_fault : MS := (mSeq2 (mIfS (mNotB (bM (mIsi "tuple" (mVar 2)))) (mRet (mTup (mCons (mC (.str "sums")) (mCons (mNeg (mC (.int 1))) mNil)))) mSkip) (mSeq2 (mFor (mEnum (mVar 2)) (.pr 3 4) (mSeq2 (mIfS (mNotB (bM (mCall m_are_rests (mCons (mVar 0) (mCons (mVar 1) (mCons (mVar 4) mNil)))))) (mRet (mTup (mCons (mC (.str "sum")) (mCons (mVar 3) mNil)))) mSkip) (mIfS (mNotB (bM (mCall m_is_sum_of (mCons (mVar 0) (mCons (mVar 1) (mCons (mVar 4) mNil)))))) (mRet (mTup (mCons (mC (.str "nought")) (mCons (mVar 3) mNil)))) mSkip))) (mRet (mC .none))))
def m_sums_fault : List PyData → Option PyData := mFn 3 5 b_sums_fault
theorem ok_sums_fault {P : Program} {w : World} {K : PySem.W.Frag} {mg : PySem.Str → Option Value} {base : Heap} (T : Tx K mg) : Fn P w K mg base 6 "sums_fault" ["prime", "size", "thing"] [] m_sums_fault :=
  T.mk_ 8 d_sums_fault sc_sums_fault (fun _ _ _ _ _ _ us hl => match us, hl with | [_, _, _], _ => rfl) fun f cdv A outer s H E hr =>
    (dz_cons (ds_if (dt_not (dt_val (de_isi (T := "tuple") (by rfl) (T.free 78) (by rfl) (T.free 81) (by decide +kernel) (de_var 2)))) (dz_one (ds_ret (dr_e (de_tup (da_cons de_str (da_cons (de_neg de_int) da_nil)))))) dz_nil) (dz_cons (ds_for PassesOwn.never rfl (di_enum (by rfl) (T.free 85) (de_var 2)) (pg_tup rfl (pgs_cons (pg_name (i := 3) sc_sums_fault.nd rfl (by first | exact Or.inl rfl | exact Or.inr rfl)) (pgs_cons (pg_name (i := 4) sc_sums_fault.nd rfl (by first | exact Or.inl rfl | exact Or.inr rfl)) pgs_nil))) (dz_cons (ds_if (dt_not (dt_val (de_call (ok_are_rests T) hr (by decide) (by rfl) (da_cons (de_var 0) (da_cons (de_var 1) (da_cons (de_var 4) da_nil)))))) (dz_one (ds_ret (dr_e (de_tup (da_cons de_str (da_cons (de_var 3) da_nil)))))) dz_nil) (dz_one (ds_if (dt_not (dt_val (de_call (ok_is_sum_of T) hr (by decide) (by rfl) (da_cons (de_var 0) (da_cons (de_var 1) (da_cons (de_var 4) da_nil)))))) (dz_one (ds_ret (dr_e (de_tup (da_cons de_str (da_cons (de_var 3) da_nil)))))) dz_nil)))) (dz_one (ds_ret (dr_e de_non)))))
def n_book_fault : List PySem.Str := ["thing"]
theorem sc_book_fault : FnScope n_book_fault ["thing"] (defScope s_book_fault) := ⟨rfl, rfl, rfl, by decide +kernel, rfl, by decide +kernel, by decide +kernel⟩
def b_book_fault : MS := (mSeq2 (mIfS (mNotB (bM (mCall m_is_tuple_of (mCons (mVar 0) (mCons (mC (.int 3)) mNil))))) (mRet (mTup (mCons (mC (.str "shape")) (mCons (mNeg (mC (.int 1))) mNil)))) mSkip) (mSeq2 (mIfS (mNotB (bM (mCall m_is_prime (mCons (mIx (mVar 0) (mC (.int 0))) mNil)))) (mRet (mTup (mCons (mC (.str "prime")) (mCons (mNeg (mC (.int 1))) mNil)))) mSkip) (mRet (mIf (bM (mCall m_is_size (mCons (mIx (mVar 0) (mC (.int 1))) mNil))) (mCall m_sums_fault (mCons (mIx (mVar 0) (mC (.int 0))) (mCons (mIx (mVar 0) (mC (.int 1))) (mCons (mIx (mVar 0) (mC (.int 2))) mNil)))) (mTup (mCons (mC (.str "size")) (mCons (mNeg (mC (.int 1))) mNil)))))))
def m_book_fault : List PyData → Option PyData := mFn 1 1 b_book_fault
theorem ok_book_fault {P : Program} {w : World} {K : PySem.W.Frag} {mg : PySem.Str → Option Value} {base : Heap} (T : Tx K mg) : Fn P w K mg base 7 "book_fault" ["thing"] [] m_book_fault :=
  T.mk_ 9 d_book_fault sc_book_fault (fun _ _ _ _ _ _ us hl => match us, hl with | [_], _ => rfl) fun f cdv A outer s H E hr =>
    (dz_cons (ds_if (dt_not (dt_val (de_call (ok_is_tuple_of T) hr (by decide) (by rfl) (da_cons (de_var 0) (da_cons de_int da_nil))))) (dz_one (ds_ret (dr_e (de_tup (da_cons de_str (da_cons (de_neg de_int) da_nil)))))) dz_nil) (dz_cons (ds_if (dt_not (dt_val (de_call (ok_is_prime T) hr (by decide) (by rfl) (da_cons (de_ix (de_w (de_var 0)) de_int) da_nil)))) (dz_one (ds_ret (dr_e (de_tup (da_cons de_str (da_cons (de_neg de_int) da_nil)))))) dz_nil) (dz_one (ds_ret (dr_e (de_if (dt_val (de_call (ok_is_size T) hr (by decide) (by rfl) (da_cons (de_ix (de_w (de_var 0)) de_int) da_nil))) (de_call (ok_sums_fault T) hr (by decide) (by rfl) (da_cons (de_ix (de_w (de_var 0)) de_int) (da_cons (de_ix (de_w (de_var 0)) de_int) (da_cons (de_ix (de_w (de_var 0)) de_int) da_nil)))) (de_tup (da_cons de_str (da_cons (de_neg de_int) da_nil)))))))))
def n_want : List PySem.Str := ["is_right", "name", "place"]
theorem sc_want : FnScope n_want ["is_right", "name", "place"] (defScope s_want) := ⟨rfl, rfl, rfl, by decide +kernel, rfl, by decide +kernel, by decide +kernel⟩
def b_want : MS := (mIfS (mNotB (bM (mVar 0))) mNever mSkip)
def m_want : List PyData → Option PyData := mFn 3 3 b_want
theorem ok_want {P : Program} {w : World} {K : PySem.W.Frag} {mg : PySem.Str → Option Value} {base : Heap} (T : Tx K mg) : Fn P w K mg base 1 "want" ["is_right", "name", "place"] [.int (-1)] m_want :=
  T.mkD 10 d_want 2 sc_want rfl (by rfl) (fun _ _ _ _ _ _ _ us its h1 h2 => match us, its, h1, h2 with | [_, _], [_], _, _ => ⟨_, rfl, rfl⟩) fun f cdv A outer s H E hr =>
    (dz_one (ds_if (dt_not (dt_val (de_var 0))) dz_never dz_nil))
def n_want_book : List PySem.Str := ["book", "name"]
theorem sc_want_book : FnScope n_want_book ["book", "name"] (defScope s_want_book) := ⟨rfl, rfl, rfl, by decide +kernel, rfl, by decide +kernel, by decide +kernel⟩
def b_want_book : MS := (mDrop (mCall (fun ds => m_want (ds ++ [.int (-1)])) (mCons (mIsN (mCall m_book_fault (mCons (mVar 0) mNil))) (mCons (mVar 1) mNil))))
def m_want_book : List PyData → Option PyData := mFn 2 2 b_want_book
theorem ok_want_book {P : Program} {w : World} {K : PySem.W.Frag} {mg : PySem.Str → Option Value} {base : Heap} (T : Tx K mg) : Fn P w K mg base 8 "want_book" ["book", "name"] [.str "book"] m_want_book :=
  T.mkD 11 d_want_book 1 sc_want_book rfl (by rfl) (fun _ _ _ _ _ _ _ us its h1 h2 => match us, its, h1, h2 with | [_], [_], _, _ => ⟨_, rfl, rfl⟩) fun f cdv A outer s H E hr =>
    (dz_one (ds_expr (de_callX (dd := [.int (-1)]) (ok_want T) (fun _ => .cons (by constructor) .nil) hr (by decide) (by rfl) (da_cons (de_isN (de_call (ok_book_fault T) hr (by decide) (by rfl) (da_cons (de_var 0) da_nil))) (da_cons (de_var 1) da_nil)))))
end Mf
set_option Elab.async false
set_option linter.all false
set_option maxRecDepth 100000
set_option maxHeartbeats 4000000
namespace Mf
open PySem PySem.Spec PyProof.Rows L2 Ly
def n_is_from : List PySem.Str := ["least", "thing"]
theorem sc_is_from : FnScope n_is_from ["least", "thing"] (defScope s_is_from) := ⟨rfl, rfl, rfl, by decide +kernel, rfl, by decide +kernel, by decide +kernel⟩
def b_is_from : MS := (mRet (mAnd (mCall m_is_number (mCons (mVar 1) mNil)) (bE (mCmpB pGe (mVar 1) (mVar 0)))))
def m_is_from : List PyData → Option PyData := mFn 2 2 b_is_from
theorem ok_is_from {P : Program} {w : World} {K : PySem.W.Frag} {mg : PySem.Str → Option Value} {base : Heap} (T : Tx K mg) : Fn P w K mg base 3 "is_from" ["least", "thing"] [] m_is_from :=
  T.mk_ 12 d_is_from sc_is_from (fun _ _ _ _ _ _ us hl => match us, hl with | [_, _], _ => rfl) fun f cdv A outer s H E hr =>
    (dz_one (ds_ret (dr_e (de_and (de_call (ok_is_number T) hr (by decide) (by rfl) (da_cons (de_var 1) da_nil)) (de_one (de_ge (de_var 1) (de_var 0)))))))
def n_want_prime : List PySem.Str := ["prime"]
theorem sc_want_prime : FnScope n_want_prime ["prime"] (defScope s_want_prime) := ⟨rfl, rfl, rfl, by decide +kernel, rfl, by decide +kernel, by decide +kernel⟩
def b_want_prime : MS := (mDrop (mCall (fun ds => m_want (ds ++ [.int (-1)])) (mCons (mCall m_is_prime (mCons (mVar 0) mNil)) (mCons (mC (.str "prime")) mNil))))
def m_want_prime : List PyData → Option PyData := mFn 1 1 b_want_prime
theorem ok_want_prime {P : Program} {w : World} {K : PySem.W.Frag} {mg : PySem.Str → Option Value} {base : Heap} (T : Tx K mg) : Fn P w K mg base 4 "want_prime" ["prime"] [] m_want_prime :=
  T.mk_ 13 d_want_prime sc_want_prime (fun _ _ _ _ _ _ us hl => match us, hl with | [_], _ => rfl) fun f cdv A outer s H E hr =>
    (dz_one (ds_expr (de_callX (dd := [.int (-1)]) (ok_want T) (fun _ => .cons (by constructor) .nil) hr (by decide) (by rfl) (da_cons (de_call (ok_is_prime T) hr (by decide) (by rfl) (da_cons (de_var 0) da_nil)) (da_cons de_str da_nil)))))
def n_want_from : List PySem.Str := ["least", "thing", "name"]
theorem sc_want_from : FnScope n_want_from ["least", "thing", "name"] (defScope s_want_from) := ⟨rfl, rfl, rfl, by decide +kernel, rfl, by decide +kernel, by decide +kernel⟩
def b_want_from : MS := (mDrop (mCall (fun ds => m_want (ds ++ [.int (-1)])) (mCons (mCall m_is_from (mCons (mVar 0) (mCons (mVar 1) mNil))) (mCons (mVar 2) mNil))))
def m_want_from : List PyData → Option PyData := mFn 3 3 b_want_from
theorem ok_want_from {P : Program} {w : World} {K : PySem.W.Frag} {mg : PySem.Str → Option Value} {base : Heap} (T : Tx K mg) : Fn P w K mg base 4 "want_from" ["least", "thing", "name"] [] m_want_from :=
  T.mk_ 14 d_want_from sc_want_from (fun _ _ _ _ _ _ us hl => match us, hl with | [_, _, _], _ => rfl) fun f cdv A outer s H E hr =>
    (dz_one (ds_expr (de_callX (dd := [.int (-1)]) (ok_want T) (fun _ => .cons (by constructor) .nil) hr (by decide) (by rfl) (da_cons (de_call (ok_is_from T) hr (by decide) (by rfl) (da_cons (de_var 0) (da_cons (de_var 1) da_nil))) (da_cons (de_var 2) da_nil)))))
def n_want_many : List PySem.Str := ["prime", "wide", "many"]
theorem sc_want_many : FnScope n_want_many ["prime", "wide", "many"] (defScope s_want_many) := ⟨rfl, rfl, rfl, by decide +kernel, rfl, by decide +kernel, by decide +kernel⟩
def b_want_many : MS := (mDrop (mCall (fun ds => m_want (ds ++ [.int (-1)])) (mCons (mAnd (mCall m_is_from (mCons (mC (.int 1)) (mCons (mVar 2) mNil))) (bE (mCmpB pLt (mBin gMul (mVar 2) (mVar 1)) (mVar 0)))) (mCons (mC (.str "many")) mNil))))
def m_want_many : List PyData → Option PyData := mFn 3 3 b_want_many
theorem ok_want_many {P : Program} {w : World} {K : PySem.W.Frag} {mg : PySem.Str → Option Value} {base : Heap} (T : Tx K mg) : Fn P w K mg base 4 "want_many" ["prime", "wide", "many"] [] m_want_many :=
  T.mk_ 15 d_want_many sc_want_many (fun _ _ _ _ _ _ us hl => match us, hl with | [_, _, _], _ => rfl) fun f cdv A outer s H E hr =>
    (dz_one (ds_expr (de_callX (dd := [.int (-1)]) (ok_want T) (fun _ => .cons (by constructor) .nil) hr (by decide) (by rfl) (da_cons (de_and (de_call (ok_is_from T) hr (by decide) (by rfl) (da_cons de_int (da_cons (de_var 2) da_nil))) (de_one (de_lt (de_mul (de_var 2) (de_var 1)) (de_var 0)))) (da_cons de_str da_nil)))))
def n_want_told : List PySem.Str := ["most", "told"]
theorem sc_want_told : FnScope n_want_told ["most", "told"] (defScope s_want_told) := ⟨rfl, rfl, rfl, by decide +kernel, rfl, by decide +kernel, by decide +kernel⟩
def b_want_told : MS := (mDrop (mCall (fun ds => m_want (ds ++ [.int (-1)])) (mCons (mAnd (mCall m_is_from (mCons (mC (.int 1)) (mCons (mVar 1) mNil))) (bE (mCmpB pLe (mVar 1) (mVar 0)))) (mCons (mC (.str "told")) mNil))))
def m_want_told : List PyData → Option PyData := mFn 2 2 b_want_told
theorem ok_want_told {P : Program} {w : World} {K : PySem.W.Frag} {mg : PySem.Str → Option Value} {base : Heap} (T : Tx K mg) : Fn P w K mg base 4 "want_told" ["most", "told"] [] m_want_told :=
  T.mk_ 16 d_want_told sc_want_told (fun _ _ _ _ _ _ us hl => match us, hl with | [_, _], _ => rfl) fun f cdv A outer s H E hr =>
    (dz_one (ds_expr (de_callX (dd := [.int (-1)]) (ok_want T) (fun _ => .cons (by constructor) .nil) hr (by decide) (by rfl) (da_cons (de_and (de_call (ok_is_from T) hr (by decide) (by rfl) (da_cons de_int (da_cons (de_var 1) da_nil))) (de_one (de_le (de_var 1) (de_var 0)))) (da_cons de_str da_nil)))))
def n_power_at : List PySem.Str := ["prime", "number", "exponent", "found", "late"]
theorem sc_power_at : FnScope n_power_at ["prime", "number", "exponent"] (defScope s_power_at) := ⟨rfl, rfl, rfl, by decide +kernel, rfl, by decide +kernel, by decide +kernel⟩
def b_power_at : MS := (mSeq2 (mPar 3 4 (sV (mC (.int 1))) (sV (mVar 1))) (mSeq2 (mWhile 1000 (mCmpB pGt (mVar 2) (mC (.int 0))) (mSeq2 (mIfS (mCmpB pEq (mBin gMod (mVar 2) (mC (.int 2))) (mC (.int 1))) (mSet 3 (mBin gMod (mBin gMul (mVar 3) (mVar 4)) (mVar 0))) mSkip) (mSeq2 (mSet 4 (mBin gMod (mBin gMul (mVar 4) (mVar 4)) (mVar 0))) (mSet 2 (mBin gDiv (mVar 2) (mC (.int 2))))))) (mRet (mVar 3))))
def m_power_at : List PyData → Option PyData := mFn 3 5 b_power_at
theorem ok_power_at {P : Program} {w : World} {K : PySem.W.Frag} {mg : PySem.Str → Option Value} {base : Heap} (T : Tx K mg) : Fn P w K mg base 1 "power_at" ["prime", "number", "exponent"] [] m_power_at :=
  T.mk_ 17 d_power_at sc_power_at (fun _ _ _ _ _ _ us hl => match us, hl with | [_, _, _], _ => rfl) fun f cdv A outer s H E hr =>
    (dz_cons (ds_vv fL_ok (ps_prL rfl sc_power_at.nd (i := 3) (j := 4) rfl rfl (by decide) rfl rfl de_int (de_var 1))) (dz_cons (ds_while 1000 PassesOwn.never (dt_gt (de_var 2) de_int) (dz_cons (ds_if (dt_eq (de_mod (de_var 2) de_int) de_int) (dz_one (ds_set (i := 3) sc_power_at.nd rfl (by first | exact Or.inl rfl | exact Or.inr rfl) (de_mod (de_mul (de_var 3) (de_var 4)) (de_var 0)))) dz_nil) (dz_cons (ds_set (i := 4) sc_power_at.nd rfl (by first | exact Or.inl rfl | exact Or.inr rfl) (de_mod (de_mul (de_var 4) (de_var 4)) (de_var 0))) (dz_one (ds_set (i := 2) sc_power_at.nd rfl (by first | exact Or.inl rfl | exact Or.inr rfl) (de_div (de_var 2) de_int)))))) (dz_one (ds_ret (dr_e (de_var 3))))))
def n_lessened_row : List PySem.Str := ["prime", "row", "first", "spot", "one", "late"]
theorem sc_lessened_row : FnScope n_lessened_row ["prime", "row", "first", "spot"] (defScope s_lessened_row) := ⟨rfl, rfl, rfl, by decide +kernel, rfl, by decide +kernel, by decide +kernel⟩
def b_lessened_row : MS := (mRet (mTupOf (lM (mLc (mZip (mVar 1) (mVar 2)) (.pr 4 5) mYes (mBin gMod (mBin gSub (mVar 4) (mBin gMul (mIx (mVar 1) (mVar 3)) (mVar 5))) (mVar 0)) [4, 5]))))
def m_lessened_row : List PyData → Option PyData := mFn 4 6 b_lessened_row
theorem ok_lessened_row {P : Program} {w : World} {K : PySem.W.Frag} {mg : PySem.Str → Option Value} {base : Heap} (T : Tx K mg) : Fn P w K mg base 1 "lessened_row" ["prime", "row", "first", "spot"] [] m_lessened_row :=
  T.mk_ 18 d_lessened_row sc_lessened_row (fun _ _ _ _ _ _ us hl => match us, hl with | [_, _, _, _], _ => rfl) fun f cdv A outer s H E hr =>
    (dz_one (ds_ret (dr_e (de_tuple (by rfl) (T.free 81) (de_w (dn_w (dn_lc (own := [("one", 4), ("late", 5)]) rfl sc_lessened_row.nd (di_zip (by rfl) (T.free 88) (de_var 1) (de_var 2)) (blkOk_by (N := n_lessened_row) (sc := defScope s_lessened_row) (by decide +kernel)) (fun _ _ _ _ _ => (pg_tup rfl (pgs_cons (pg_name (i := 4) sc_lessened_row.nd rfl (by first | exact Or.inl rfl | exact Or.inr rfl)) (pgs_cons (pg_name (i := 5) sc_lessened_row.nd rfl (by first | exact Or.inl rfl | exact Or.inr rfl)) pgs_nil)))) (fun _ _ _ _ _ => dp_nil) (fun _ _ _ _ _ => (de_mod (de_sub (de_var 4) (de_mul (de_ix (de_w (de_var 1)) (de_var 3)) (de_var 5))) (de_var 0))) (by decide))))))))
def n_led_row : List PySem.Str := ["prime", "row", "spot", "back", "one"]
theorem sc_led_row : FnScope n_led_row ["prime", "row", "spot"] (defScope s_led_row) := ⟨rfl, rfl, rfl, by decide +kernel, rfl, by decide +kernel, by decide +kernel⟩
def b_led_row : MS := (mSeq2 (mSet 3 (mCall m_power_at (mCons (mVar 0) (mCons (mIx (mVar 1) (mVar 2)) (mCons (mBin gSub (mVar 0) (mC (.int 2))) mNil))))) (mRet (mTupOf (lM (mLc (mSeq (mVar 1)) (.nm 4) mYes (mBin gMod (mBin gMul (mVar 4) (mVar 3)) (mVar 0)) [4])))))
def m_led_row : List PyData → Option PyData := mFn 3 5 b_led_row
theorem ok_led_row {P : Program} {w : World} {K : PySem.W.Frag} {mg : PySem.Str → Option Value} {base : Heap} (T : Tx K mg) : Fn P w K mg base 2 "led_row" ["prime", "row", "spot"] [] m_led_row :=
  T.mk_ 19 d_led_row sc_led_row (fun _ _ _ _ _ _ us hl => match us, hl with | [_, _, _], _ => rfl) fun f cdv A outer s H E hr =>
    (dz_cons (ds_set (i := 3) sc_led_row.nd rfl (by first | exact Or.inl rfl | exact Or.inr rfl) (de_call (ok_power_at T) hr (by decide) (by rfl) (da_cons (de_var 0) (da_cons (de_ix (de_w (de_var 1)) (de_var 2)) (da_cons (de_sub (de_var 0) de_int) da_nil))))) (dz_one (ds_ret (dr_e (de_tuple (by rfl) (T.free 81) (de_w (dn_w (dn_lc (own := [("one", 4)]) rfl sc_led_row.nd (di_seq (de_var 1)) (blkOk_by (N := n_led_row) (sc := defScope s_led_row) (by decide +kernel)) (fun _ _ _ _ _ => (pg_name (i := 4) sc_led_row.nd rfl (by first | exact Or.inl rfl | exact Or.inr rfl))) (fun _ _ _ _ _ => dp_nil) (fun _ _ _ _ _ => (de_mod (de_mul (de_var 4) (de_var 3)) (de_var 0))) (by decide)))))))))
def n_reduced_by : List PySem.Str := ["prime", "rows", "wide", "left", "found", "spot", "firsts", "first", "row"]
theorem sc_reduced_by : FnScope n_reduced_by ["prime", "rows", "wide"] (defScope s_reduced_by) := ⟨rfl, rfl, rfl, by decide +kernel, rfl, by decide +kernel, by decide +kernel⟩
def b_reduced_by : MS := (mSeq2 (mPar 3 4 (sV (lM (mLc (mSeq (mVar 1)) (.nm 8) mYes (mTupOf (mVar 8)) [8]))) (sV (lM (mLst mNil)))) (mSeq2 (mFor (mRg1 (mVar 2)) (.nm 5) (mSeq2 (mSet 6 (lM (mLc (mSeq (mVar 3)) (.nm 8) (mCmpB pGt (mIx (mVar 8) (mVar 5)) (mC (.int 0))) (mVar 8) [8]))) (mIfS (mCmpB pGt (mLen (mVar 6)) (mC (.int 0))) (mSeq2 (mSet 7 (mCall m_led_row (mCons (mVar 0) (mCons (mIx (mVar 6) (mC (.int 0))) (mCons (mVar 5) mNil))))) (mSeq2 (mSet 3 (lM (mLc (mSeq (mVar 3)) (.nm 8) mYes (mCall m_lessened_row (mCons (mVar 0) (mCons (mVar 8) (mCons (mVar 7) (mCons (mVar 5) mNil))))) [8]))) (mSet 4 (lM (mLst (mStar (lM (mLc (mSeq (mVar 4)) (.nm 8) mYes (mCall m_lessened_row (mCons (mVar 0) (mCons (mVar 8) (mCons (mVar 7) (mCons (mVar 5) mNil))))) [8])) (mCons (mVar 7) mNil))))))) mSkip))) (mRet (mTupOf (mVar 4)))))
def m_reduced_by : List PyData → Option PyData := mFn 3 9 b_reduced_by
theorem ok_reduced_by {P : Program} {w : World} {K : PySem.W.Frag} {mg : PySem.Str → Option Value} {base : Heap} (T : Tx K mg) : Fn P w K mg base 3 "reduced_by" ["prime", "rows", "wide"] [] m_reduced_by :=
  T.mk_ 20 d_reduced_by sc_reduced_by (fun _ _ _ _ _ _ us hl => match us, hl with | [_, _, _], _ => rfl) fun f cdv A outer s H E hr =>
    (dz_cons (ds_vv fL_ok (ps_prL rfl sc_reduced_by.nd (i := 3) (j := 4) rfl rfl (by decide) rfl rfl (dn_w (dn_lc (own := [("row", 8)]) rfl sc_reduced_by.nd (di_seq (de_var 1)) (blkOk_by (N := n_reduced_by) (sc := defScope s_reduced_by) (by decide +kernel)) (fun _ _ _ _ _ => (pg_name (i := 8) sc_reduced_by.nd rfl (by first | exact Or.inl rfl | exact Or.inr rfl))) (fun _ _ _ _ _ => dp_nil) (fun _ _ _ _ _ => (de_tuple (by rfl) (T.free 81) (de_w (de_var 8)))) (by decide))) (dn_w (dn_lst da_nil)))) (dz_cons (ds_for PassesOwn.never rfl (di_range1 (by rfl) (T.free 86) (de_var 2)) (pg_name (i := 5) sc_reduced_by.nd rfl (by first | exact Or.inl rfl | exact Or.inr rfl)) (dz_cons (ds_V (dx_setLc (i := 6) (own := [("row", 8)]) rfl sc_reduced_by.nd rfl rfl (sw_true rfl rfl rfl (by decide +kernel)) (di_seq (de_var 3)) (blkOk_by (N := n_reduced_by) (sc := defScope s_reduced_by) (by decide +kernel)) (fun _ _ _ _ _ => (pg_name (i := 8) sc_reduced_by.nd rfl (by first | exact Or.inl rfl | exact Or.inr rfl))) (fun _ _ _ _ _ => (dp_one (dt_gt (de_ix (de_w (de_var 8)) (de_var 5)) de_int))) (fun _ _ _ _ _ => (de_var 8)) (by decide))) (dz_one (ds_if (dt_gt (de_len (by rfl) (T.free 82) (de_w (de_var 6))) de_int) (dz_cons (ds_set (i := 7) sc_reduced_by.nd rfl (by first | exact Or.inl rfl | exact Or.inr rfl) (de_call (ok_led_row T) hr (by decide) (by rfl) (da_cons (de_var 0) (da_cons (de_ix (de_w (de_var 6)) de_int) (da_cons (de_var 5) da_nil))))) (dz_cons (ds_V (dx_setLc (i := 3) (own := [("row", 8)]) rfl sc_reduced_by.nd rfl rfl (sw_true rfl rfl rfl (by decide +kernel)) (di_seq (de_var 3)) (blkOk_by (N := n_reduced_by) (sc := defScope s_reduced_by) (by decide +kernel)) (fun _ _ _ _ _ => (pg_name (i := 8) sc_reduced_by.nd rfl (by first | exact Or.inl rfl | exact Or.inr rfl))) (fun _ _ _ _ _ => dp_nil) (fun _ _ _ _ _ => (de_call (ok_lessened_row T) hr (by decide) (by rfl) (da_cons (de_var 0) (da_cons (de_var 8) (da_cons (de_var 7) (da_cons (de_var 5) da_nil)))))) (by decide))) (dz_one (ds_set (i := 4) sc_reduced_by.nd rfl (by first | exact Or.inl rfl | exact Or.inr rfl) (dn_w (dn_lst (da_star (de_w (dn_w (dn_lc (own := [("row", 8)]) rfl sc_reduced_by.nd (di_seq (de_var 4)) (blkOk_by (N := n_reduced_by) (sc := defScope s_reduced_by) (by decide +kernel)) (fun _ _ _ _ _ => (pg_name (i := 8) sc_reduced_by.nd rfl (by first | exact Or.inl rfl | exact Or.inr rfl))) (fun _ _ _ _ _ => dp_nil) (fun _ _ _ _ _ => (de_call (ok_lessened_row T) hr (by decide) (by rfl) (da_cons (de_var 0) (da_cons (de_var 8) (da_cons (de_var 7) (da_cons (de_var 5) da_nil)))))) (by decide)))) (da_cons (de_var 7) da_nil)))))))) dz_nil)))) (dz_one (ds_ret (dr_e (de_tuple (by rfl) (T.free 81) (de_w (de_var 4))))))))
def n_lead_of : List PySem.Str := ["row", "spot", "one"]
theorem sc_lead_of : FnScope n_lead_of ["row"] (defScope s_lead_of) := ⟨rfl, rfl, rfl, by decide +kernel, rfl, by decide +kernel, by decide +kernel⟩
def b_lead_of : MS := (mRet (mIx (lM (mLc (mEnum (mVar 0)) (.pr 1 2) (mCmpB pGt (mVar 2) (mC (.int 0))) (mVar 1) [1, 2])) (mC (.int 0))))
def m_lead_of : List PyData → Option PyData := mFn 1 3 b_lead_of
theorem ok_lead_of {P : Program} {w : World} {K : PySem.W.Frag} {mg : PySem.Str → Option Value} {base : Heap} (T : Tx K mg) : Fn P w K mg base 1 "lead_of" ["row"] [] m_lead_of :=
  T.mk_ 21 d_lead_of sc_lead_of (fun _ _ _ _ _ _ us hl => match us, hl with | [_], _ => rfl) fun f cdv A outer s H E hr =>
    (dz_one (ds_ret (dr_e (de_ix (de_w (dn_w (dn_lc (own := [("spot", 1), ("one", 2)]) rfl sc_lead_of.nd (di_enum (by rfl) (T.free 85) (de_var 0)) (blkOk_by (N := n_lead_of) (sc := defScope s_lead_of) (by decide +kernel)) (fun _ _ _ _ _ => (pg_tup rfl (pgs_cons (pg_name (i := 1) sc_lead_of.nd rfl (by first | exact Or.inl rfl | exact Or.inr rfl)) (pgs_cons (pg_name (i := 2) sc_lead_of.nd rfl (by first | exact Or.inl rfl | exact Or.inr rfl)) pgs_nil)))) (fun _ _ _ _ _ => (dp_one (dt_gt (de_var 2) de_int))) (fun _ _ _ _ _ => (de_var 1)) (by decide)))) de_int))))
def n_kept_row : List PySem.Str := ["prime", "reduced", "leads", "wide", "free", "found", "lead", "row", "spot"]
theorem sc_kept_row : FnScope n_kept_row ["prime", "reduced", "leads", "wide", "free"] (defScope s_kept_row) := ⟨rfl, rfl, rfl, by decide +kernel, rfl, by decide +kernel, by decide +kernel⟩
def b_kept_row : MS := (mSeq2 (mSetO 5 (mLc (mRg1 (mVar 3)) (.nm 8) mYes (mIf (mCmpB pEq (mVar 8) (mVar 4)) (mC (.int 1)) (mC (.int 0))) [8])) (mSeq2 (mFor (mZip (mVar 2) (mVar 1)) (.pr 6 7) (mPut 5 (mVar 6) (mBin gMod (mNeg (mIx (mVar 7) (mVar 4))) (mVar 0)))) (mRet (mTupOf (mOwn 5)))))
def m_kept_row : List PyData → Option PyData := mFn 5 9 b_kept_row
theorem ok_kept_row {P : Program} {w : World} {K : PySem.W.Frag} {mg : PySem.Str → Option Value} {base : Heap} (T : Tx K mg) : Fn P w K mg base 1 "kept_row" ["prime", "reduced", "leads", "wide", "free"] [] m_kept_row :=
  T.mk_ 22 d_kept_row sc_kept_row (fun _ _ _ _ _ _ us hl => match us, hl with | [_, _, _, _, _], _ => rfl) fun f cdv A outer s H E hr =>
    (dz_cons (ds_O (dx_setLc (i := 5) (own := [("spot", 8)]) rfl sc_kept_row.nd rfl rfl (sw_true rfl rfl rfl (by decide +kernel)) (di_range1 (by rfl) (T.free 86) (de_var 3)) (blkOk_by (N := n_kept_row) (sc := defScope s_kept_row) (by decide +kernel)) (fun _ _ _ _ _ => (pg_name (i := 8) sc_kept_row.nd rfl (by first | exact Or.inl rfl | exact Or.inr rfl))) (fun _ _ _ _ _ => dp_nil) (fun _ _ _ _ _ => (de_if (dt_eq (de_var 8) (de_var 4)) de_int de_int)) (by decide))) (dz_cons (ds_for PassesOwn.never rfl (di_zip (by rfl) (T.free 88) (de_var 2) (de_var 1)) (pg_tup rfl (pgs_cons (pg_name (i := 6) sc_kept_row.nd rfl (by first | exact Or.inl rfl | exact Or.inr rfl)) (pgs_cons (pg_name (i := 7) sc_kept_row.nd rfl (by first | exact Or.inl rfl | exact Or.inr rfl)) pgs_nil))) (dz_one (ds_put (i := 5) (ps_asg (de_mod (de_neg (de_ix (de_w (de_var 7)) (de_var 4))) (de_var 0)) (pg_sub (pv 5) (de_var 6) set_list))))) (dz_one (ds_ret (dr_e (de_tuple (by rfl) (T.free 81) (dw_own 5)))))))
def n_null_by : List PySem.Str := ["prime", "rows", "wide", "reduced", "leads", "frees", "row", "spot", "free"]
theorem sc_null_by : FnScope n_null_by ["prime", "rows", "wide"] (defScope s_null_by) := ⟨rfl, rfl, rfl, by decide +kernel, rfl, by decide +kernel, by decide +kernel⟩
def b_null_by : MS := (mSeq2 (mSet 3 (mCall m_reduced_by (mCons (mVar 0) (mCons (mVar 1) (mCons (mVar 2) mNil))))) (mSeq2 (mSet 4 (lM (mLc (mSeq (mVar 3)) (.nm 6) mYes (mCall m_lead_of (mCons (mVar 6) mNil)) [6]))) (mSeq2 (mSet 5 (lM (mLc (mRg1 (mVar 2)) (.nm 7) (mInB true (mVar 7) (mVar 4)) (mVar 7) [7]))) (mRet (mCall m_reduced_by (mCons (mVar 0) (mCons (lM (mLc (mSeq (mVar 5)) (.nm 8) mYes (mCall m_kept_row (mCons (mVar 0) (mCons (mVar 3) (mCons (mVar 4) (mCons (mVar 2) (mCons (mVar 8) mNil)))))) [8])) (mCons (mVar 2) mNil))))))))
def m_null_by : List PyData → Option PyData := mFn 3 9 b_null_by
theorem ok_null_by {P : Program} {w : World} {K : PySem.W.Frag} {mg : PySem.Str → Option Value} {base : Heap} (T : Tx K mg) : Fn P w K mg base 4 "null_by" ["prime", "rows", "wide"] [] m_null_by :=
  T.mk_ 23 d_null_by sc_null_by (fun _ _ _ _ _ _ us hl => match us, hl with | [_, _, _], _ => rfl) fun f cdv A outer s H E hr =>
    (dz_cons (ds_set (i := 3) sc_null_by.nd rfl (by first | exact Or.inl rfl | exact Or.inr rfl) (de_call (ok_reduced_by T) hr (by decide) (by rfl) (da_cons (de_var 0) (da_cons (de_var 1) (da_cons (de_var 2) da_nil))))) (dz_cons (ds_set (i := 4) sc_null_by.nd rfl (by first | exact Or.inl rfl | exact Or.inr rfl) (dn_w (dn_lc (own := [("row", 6)]) rfl sc_null_by.nd (di_seq (de_var 3)) (blkOk_by (N := n_null_by) (sc := defScope s_null_by) (by decide +kernel)) (fun _ _ _ _ _ => (pg_name (i := 6) sc_null_by.nd rfl (by first | exact Or.inl rfl | exact Or.inr rfl))) (fun _ _ _ _ _ => dp_nil) (fun _ _ _ _ _ => (de_call (ok_lead_of T) hr (by decide) (by rfl) (da_cons (de_var 6) da_nil))) (by decide)))) (dz_cons (ds_V (dx_setLc (i := 5) (own := [("spot", 7)]) rfl sc_null_by.nd rfl rfl (sw_true rfl rfl rfl (by decide +kernel)) (di_range1 (by rfl) (T.free 86) (de_var 2)) (blkOk_by (N := n_null_by) (sc := defScope s_null_by) (by decide +kernel)) (fun _ _ _ _ _ => (pg_name (i := 7) sc_null_by.nd rfl (by first | exact Or.inl rfl | exact Or.inr rfl))) (fun _ _ _ _ _ => (dp_one (dt_notin (de_var 7) (de_var 4)))) (fun _ _ _ _ _ => (de_var 7)) (by decide))) (dz_one (ds_ret (dr_e (de_call (ok_reduced_by T) hr (by decide) (by rfl) (da_cons (de_var 0) (da_cons (dn_w (dn_lc (own := [("free", 8)]) rfl sc_null_by.nd (di_seq (de_var 5)) (blkOk_by (N := n_null_by) (sc := defScope s_null_by) (by decide +kernel)) (fun _ _ _ _ _ => (pg_name (i := 8) sc_null_by.nd rfl (by first | exact Or.inl rfl | exact Or.inr rfl))) (fun _ _ _ _ _ => dp_nil) (fun _ _ _ _ _ => (de_call (ok_kept_row T) hr (by decide) (by rfl) (da_cons (de_var 0) (da_cons (de_var 3) (da_cons (de_var 4) (da_cons (de_var 2) (da_cons (de_var 8) da_nil))))))) (by decide))) (da_cons (de_var 2) da_nil))))))))))
end Mf
set_option Elab.async false
set_option linter.all false
set_option maxRecDepth 100000
set_option maxHeartbeats 4000000
namespace Mf
open PySem PySem.Spec PyProof.Rows L2 Ly
def n_cut_rows : List PySem.Str := ["rows", "places", "row", "place"]
theorem sc_cut_rows : FnScope n_cut_rows ["rows", "places"] (defScope s_cut_rows) := ⟨rfl, rfl, rfl, by decide +kernel, rfl, by decide +kernel, by decide +kernel⟩
def b_cut_rows : MS := (mRet (lM (mLc (mSeq (mVar 0)) (.nm 2) mYes (mTupOf (lM (mLc (mSeq (mVar 1)) (.nm 3) mYes (mIx (mVar 2) (mVar 3)) [3]))) [2])))
def m_cut_rows : List PyData → Option PyData := mFn 2 4 b_cut_rows
theorem ok_cut_rows {P : Program} {w : World} {K : PySem.W.Frag} {mg : PySem.Str → Option Value} {base : Heap} (T : Tx K mg) : Fn P w K mg base 1 "cut_rows" ["rows", "places"] [] m_cut_rows :=
  T.mk_ 24 d_cut_rows sc_cut_rows (fun _ _ _ _ _ _ us hl => match us, hl with | [_, _], _ => rfl) fun f cdv A outer s H E hr =>
    (dz_one (ds_ret (dr_n (dn_lc (own := [("row", 2)]) rfl sc_cut_rows.nd (di_seq (de_var 0)) (blkOk_by (N := n_cut_rows) (sc := defScope s_cut_rows) (by decide +kernel)) (fun _ _ _ _ _ => (pg_name (i := 2) sc_cut_rows.nd rfl (by first | exact Or.inl rfl | exact Or.inr rfl))) (fun _ _ _ _ _ => dp_nil) (fun _ _ _ _ _ => (de_tuple (by rfl) (T.free 81) (de_w (dn_w (dn_lc (own := [("place", 3)]) rfl sc_cut_rows.nd (di_seq (de_var 1)) (blkOk_by (N := n_cut_rows) (sc := relS _ (defScope s_cut_rows)) (by decide +kernel)) (fun _ _ _ _ _ => (pg_name (i := 3) sc_cut_rows.nd rfl (by first | exact Or.inl rfl | exact Or.inr rfl))) (fun _ _ _ _ _ => dp_nil) (fun _ _ _ _ _ => (de_ix (de_w (de_var 2)) (de_var 3))) (by decide)))))) (by decide)))))
def n_sums_in : List PySem.Str := ["book"]
theorem sc_sums_in : FnScope n_sums_in ["book"] (defScope s_sums_in) := ⟨rfl, rfl, rfl, by decide +kernel, rfl, by decide +kernel, by decide +kernel⟩
def b_sums_in : MS := (mRet (mCall m_reduced_by (mCons (mIx (mVar 0) (mC (.int 0))) (mCons (mIx (mVar 0) (mC (.int 2))) (mCons (mIx (mVar 0) (mC (.int 1))) mNil)))))
def m_sums_in : List PyData → Option PyData := mFn 1 1 b_sums_in
theorem ok_sums_in {P : Program} {w : World} {K : PySem.W.Frag} {mg : PySem.Str → Option Value} {base : Heap} (T : Tx K mg) : Fn P w K mg base 4 "sums_in" ["book"] [] m_sums_in :=
  T.mk_ 25 d_sums_in sc_sums_in (fun _ _ _ _ _ _ us hl => match us, hl with | [_], _ => rfl) fun f cdv A outer s H E hr =>
    (dz_one (ds_ret (dr_e (de_call (ok_reduced_by T) hr (by decide) (by rfl) (da_cons (de_ix (de_w (de_var 0)) de_int) (da_cons (de_ix (de_w (de_var 0)) de_int) (da_cons (de_ix (de_w (de_var 0)) de_int) da_nil)))))))
def n_book_of_words : List PySem.Str := ["prime", "size", "words"]
theorem sc_book_of_words : FnScope n_book_of_words ["prime", "size", "words"] (defScope s_book_of_words) := ⟨rfl, rfl, rfl, by decide +kernel, rfl, by decide +kernel, by decide +kernel⟩
def b_book_of_words : MS := (mRet (mTup (mCons (mVar 0) (mCons (mVar 1) (mCons (mCall m_null_by (mCons (mVar 0) (mCons (mVar 2) (mCons (mVar 1) mNil)))) mNil)))))
def m_book_of_words : List PyData → Option PyData := mFn 3 3 b_book_of_words
theorem ok_book_of_words {P : Program} {w : World} {K : PySem.W.Frag} {mg : PySem.Str → Option Value} {base : Heap} (T : Tx K mg) : Fn P w K mg base 5 "book_of_words" ["prime", "size", "words"] [] m_book_of_words :=
  T.mk_ 26 d_book_of_words sc_book_of_words (fun _ _ _ _ _ _ us hl => match us, hl with | [_, _, _], _ => rfl) fun f cdv A outer s H E hr =>
    (dz_one (ds_ret (dr_e (de_tup (da_cons (de_var 0) (da_cons (de_var 1) (da_cons (de_call (ok_null_by T) hr (by decide) (by rfl) (da_cons (de_var 0) (da_cons (de_var 2) (da_cons (de_var 1) da_nil)))) da_nil)))))))
def n_prime_parts : List PySem.Str := ["number", "found", "part", "left"]
theorem sc_prime_parts : FnScope n_prime_parts ["number"] (defScope s_prime_parts) := ⟨rfl, rfl, rfl, by decide +kernel, rfl, by decide +kernel, by decide +kernel⟩
def b_prime_parts : MS := (mSeq2 (mPar3 1 2 3 (sO (mLst mNil)) (sV (mC (.int 2))) (sV (mVar 0))) (mSeq2 (mWhile 1000 (mCmpB pLe (mBin gMul (mVar 2) (mVar 2)) (mVar 3)) (mSeq2 (mIfS (mCmpB pEq (mBin gMod (mVar 3) (mVar 2)) (mC (.int 0))) (mSeq2 (mApp 1 (mVar 2)) (mWhile 1000 (mCmpB pEq (mBin gMod (mVar 3) (mVar 2)) (mC (.int 0))) (mSet 3 (mBin gDiv (mVar 3) (mVar 2))))) mSkip) (mAug 2 (mC (.int 1))))) (mRet (mIf (mCmpB pGt (mVar 3) (mC (.int 1))) (lM (mLst (mStar (mOwn 1) (mCons (mVar 3) mNil)))) (mOwn 1)))))
def m_prime_parts : List PyData → Option PyData := mFn 1 4 b_prime_parts
theorem ok_prime_parts {P : Program} {w : World} {K : PySem.W.Frag} {mg : PySem.Str → Option Value} {base : Heap} (T : Tx K mg) : Fn P w K mg base 1 "prime_parts" ["number"] [] m_prime_parts :=
  T.mk_ 27 d_prime_parts sc_prime_parts (fun _ _ _ _ _ _ us hl => match us, hl with | [_], _ => rfl) fun f cdv A outer s H E hr =>
    (dz_cons (ds_ovv (ps_par3 rfl sc_prime_parts.nd (i := 1) (j := 2) (l := 3) rfl rfl rfl (by decide) (by decide) (by decide) rfl rfl rfl (pa_cons (dn_lst da_nil) (pa_cons de_int (pa_cons (de_var 0) pa_nil))) rfl)) (dz_cons (ds_while 1000 PassesOwn.never (dt_le (de_mul (de_var 2) (de_var 2)) (de_var 3)) (dz_cons (ds_if (dt_eq (de_mod (de_var 3) (de_var 2)) de_int) (dz_cons (ds_app (i := 1) (ps_expr (pe_bm PySem.F.plainAttrs_list PySem.F.slot_list_append PySem.F.type_list_append mt_append (pv 1) (pa_cons (de_var 2) pa_nil)))) (dz_one (ds_while 1000 PassesOwn.never (dt_eq (de_mod (de_var 3) (de_var 2)) de_int) (dz_one (ds_set (i := 3) sc_prime_parts.nd rfl (by first | exact Or.inl rfl | exact Or.inr rfl) (de_div (de_var 3) (de_var 2))))))) dz_nil) (dz_one (ds_aug (i := 2) sc_prime_parts.nd rfl (by first | exact Or.inl rfl | exact Or.inr rfl) de_int)))) (dz_one (ds_ret (dr_if (dt_gt (de_var 3) de_int) (dr_n (dn_lst (da_star (dw_own 1) (da_cons (de_var 3) da_nil)))) (dr_own 1))))))
def n_primitive_by : List PySem.Str := ["prime", "parts", "found", "part"]
theorem sc_primitive_by : FnScope n_primitive_by ["prime"] (defScope s_primitive_by) := ⟨rfl, rfl, rfl, by decide +kernel, rfl, by decide +kernel, by decide +kernel⟩
def b_primitive_by : MS := (mSeq2 (mPar 1 2 (sV (mCall m_prime_parts (mCons (mBin gSub (mVar 0) (mC (.int 1))) mNil))) (sV (mC (.int 1)))) (mSeq2 (mWhile 1000 (mNotB (bM (mBools (fun bs => bs.all id) (lM (mLc (mSeq (mVar 1)) (.nm 3) mYes (bE (mCmpB pNe (mCall m_power_at (mCons (mVar 0) (mCons (mVar 2) (mCons (mBin gDiv (mBin gSub (mVar 0) (mC (.int 1))) (mVar 3)) mNil)))) (mC (.int 1)))) [3]))))) (mAug 2 (mC (.int 1)))) (mRet (mVar 2))))
def m_primitive_by : List PyData → Option PyData := mFn 1 4 b_primitive_by
theorem ok_primitive_by {P : Program} {w : World} {K : PySem.W.Frag} {mg : PySem.Str → Option Value} {base : Heap} (T : Tx K mg) : Fn P w K mg base 2 "primitive_by" ["prime"] [] m_primitive_by :=
  T.mk_ 28 d_primitive_by sc_primitive_by (fun _ _ _ _ _ _ us hl => match us, hl with | [_], _ => rfl) fun f cdv A outer s H E hr =>
    (dz_cons (ds_vv fT_ok (ps_prT rfl (pg_name (i := 1) sc_primitive_by.nd rfl (by first | exact Or.inl rfl | exact Or.inr rfl)) (pg_name (i := 2) sc_primitive_by.nd rfl (by first | exact Or.inl rfl | exact Or.inr rfl)) (de_call (ok_prime_parts T) hr (by decide) (by rfl) (da_cons (de_sub (de_var 0) de_int) da_nil)) de_int)) (dz_cons (ds_while 1000 PassesOwn.never (dt_not (dt_val (de_all (by rfl) (T.free 83) rfl (dn_w (dn_lc (own := [("part", 3)]) rfl sc_primitive_by.nd (di_seq (de_var 1)) (blkOk_by (N := n_primitive_by) (sc := defScope s_primitive_by) (by decide +kernel)) (fun _ _ _ _ _ => (pg_name (i := 3) sc_primitive_by.nd rfl (by first | exact Or.inl rfl | exact Or.inr rfl))) (fun _ _ _ _ _ => dp_nil) (fun _ _ _ _ _ => (de_ne (de_call (ok_power_at T) hr (by decide) (by rfl) (da_cons (de_var 0) (da_cons (de_var 2) (da_cons (de_div (de_sub (de_var 0) de_int) (de_var 3)) da_nil)))) de_int)) (by decide)))))) (dz_one (ds_aug (i := 2) sc_primitive_by.nd rfl (by first | exact Or.inl rfl | exact Or.inr rfl) de_int))) (dz_one (ds_ret (dr_e (de_var 2))))))
def n_numbers_by : List PySem.Str := ["prime", "wide", "many", "first", "root", "tops", "turns", "j", "i", "top", "turn"]
theorem sc_numbers_by : FnScope n_numbers_by ["prime", "wide", "many"] (defScope s_numbers_by) := ⟨rfl, rfl, rfl, by decide +kernel, rfl, by decide +kernel, by decide +kernel⟩
def b_numbers_by : MS := (mSeq2 (mSet 3 (mCall m_primitive_by (mCons (mVar 0) mNil))) (mSeq2 (mSet 4 (mCall m_power_at (mCons (mVar 0) (mCons (mVar 3) (mCons (mBin gDiv (mBin gSub (mVar 0) (mC (.int 1))) (mVar 1)) mNil))))) (mSeq2 (mSet 5 (lM (mLc (mRg1 (mVar 2)) (.nm 7) mYes (mCall m_power_at (mCons (mVar 0) (mCons (mVar 3) (mCons (mVar 7) mNil)))) [7]))) (mSeq2 (mSet 6 (lM (mLc (mRg1 (mVar 1)) (.nm 8) mYes (mCall m_power_at (mCons (mVar 0) (mCons (mVar 4) (mCons (mVar 8) mNil)))) [8]))) (mRet (mTupOf (lM (mLc2 (mSeq (mVar 5)) (.nm 9) (mSeq (mVar 6)) (.nm 10) mYes (mBin gMod (mBin gMul (mVar 9) (mVar 10)) (mVar 0)) [9, 10] [10]))))))))
def m_numbers_by : List PyData → Option PyData := mFn 3 11 b_numbers_by
theorem ok_numbers_by {P : Program} {w : World} {K : PySem.W.Frag} {mg : PySem.Str → Option Value} {base : Heap} (T : Tx K mg) : Fn P w K mg base 3 "numbers_by" ["prime", "wide", "many"] [] m_numbers_by :=
  T.mk_ 29 d_numbers_by sc_numbers_by (fun _ _ _ _ _ _ us hl => match us, hl with | [_, _, _], _ => rfl) fun f cdv A outer s H E hr =>
    (dz_cons (ds_set (i := 3) sc_numbers_by.nd rfl (by first | exact Or.inl rfl | exact Or.inr rfl) (de_call (ok_primitive_by T) hr (by decide) (by rfl) (da_cons (de_var 0) da_nil))) (dz_cons (ds_set (i := 4) sc_numbers_by.nd rfl (by first | exact Or.inl rfl | exact Or.inr rfl) (de_call (ok_power_at T) hr (by decide) (by rfl) (da_cons (de_var 0) (da_cons (de_var 3) (da_cons (de_div (de_sub (de_var 0) de_int) (de_var 1)) da_nil))))) (dz_cons (ds_V (dx_setLc (i := 5) (own := [("j", 7)]) rfl sc_numbers_by.nd rfl rfl (sw_true rfl rfl rfl (by decide +kernel)) (di_range1 (by rfl) (T.free 86) (de_var 2)) (blkOk_by (N := n_numbers_by) (sc := defScope s_numbers_by) (by decide +kernel)) (fun _ _ _ _ _ => (pg_name (i := 7) sc_numbers_by.nd rfl (by first | exact Or.inl rfl | exact Or.inr rfl))) (fun _ _ _ _ _ => dp_nil) (fun _ _ _ _ _ => (de_call (ok_power_at T) hr (by decide) (by rfl) (da_cons (de_var 0) (da_cons (de_var 3) (da_cons (de_var 7) da_nil))))) (by decide))) (dz_cons (ds_set (i := 6) sc_numbers_by.nd rfl (by first | exact Or.inl rfl | exact Or.inr rfl) (dn_w (dn_lc (own := [("i", 8)]) rfl sc_numbers_by.nd (di_range1 (by rfl) (T.free 86) (de_var 1)) (blkOk_by (N := n_numbers_by) (sc := defScope s_numbers_by) (by decide +kernel)) (fun _ _ _ _ _ => (pg_name (i := 8) sc_numbers_by.nd rfl (by first | exact Or.inl rfl | exact Or.inr rfl))) (fun _ _ _ _ _ => dp_nil) (fun _ _ _ _ _ => (de_call (ok_power_at T) hr (by decide) (by rfl) (da_cons (de_var 0) (da_cons (de_var 4) (da_cons (de_var 8) da_nil))))) (by decide)))) (dz_one (ds_ret (dr_e (de_tuple (by rfl) (T.free 81) (de_w (dn_w (dn_lc2 (vs1 := [10]) (own := [("top", 9), ("turn", 10)]) rfl sc_numbers_by.nd (di_seq (de_var 5)) (blkOk_by (N := n_numbers_by) (sc := defScope s_numbers_by) (by decide +kernel)) (by decide) (fun _ _ _ _ _ => (pg_name (i := 9) sc_numbers_by.nd rfl (by first | exact Or.inl rfl | exact Or.inr rfl))) (fun _ _ _ _ _ => (di_seq (de_var 6))) (fun _ _ _ _ _ => (pg_name (i := 10) sc_numbers_by.nd rfl (by first | exact Or.inl rfl | exact Or.inr rfl))) (fun _ _ _ _ _ => dp_nil) (fun _ _ _ _ _ => (de_mod (de_mul (de_var 9) (de_var 10)) (de_var 0))) (by decide) (by decide))))))))))))
def n_power_rows : List PySem.Str := ["prime", "numbers", "exponents", "exponent", "number"]
theorem sc_power_rows : FnScope n_power_rows ["prime", "numbers", "exponents"] (defScope s_power_rows) := ⟨rfl, rfl, rfl, by decide +kernel, rfl, by decide +kernel, by decide +kernel⟩
def b_power_rows : MS := (mRet (mTupOf (lM (mLc (mSeq (mVar 2)) (.nm 3) mYes (mTupOf (lM (mLc (mSeq (mVar 1)) (.nm 4) mYes (mCall m_power_at (mCons (mVar 0) (mCons (mVar 4) (mCons (mVar 3) mNil)))) [4]))) [3]))))
def m_power_rows : List PyData → Option PyData := mFn 3 5 b_power_rows
theorem ok_power_rows {P : Program} {w : World} {K : PySem.W.Frag} {mg : PySem.Str → Option Value} {base : Heap} (T : Tx K mg) : Fn P w K mg base 2 "power_rows" ["prime", "numbers", "exponents"] [] m_power_rows :=
  T.mk_ 30 d_power_rows sc_power_rows (fun _ _ _ _ _ _ us hl => match us, hl with | [_, _, _], _ => rfl) fun f cdv A outer s H E hr =>
    (dz_one (ds_ret (dr_e (de_tuple (by rfl) (T.free 81) (de_w (dn_w (dn_lc (own := [("exponent", 3)]) rfl sc_power_rows.nd (di_seq (de_var 2)) (blkOk_by (N := n_power_rows) (sc := defScope s_power_rows) (by decide +kernel)) (fun _ _ _ _ _ => (pg_name (i := 3) sc_power_rows.nd rfl (by first | exact Or.inl rfl | exact Or.inr rfl))) (fun _ _ _ _ _ => dp_nil) (fun _ _ _ _ _ => (de_tuple (by rfl) (T.free 81) (de_w (dn_w (dn_lc (own := [("number", 4)]) rfl sc_power_rows.nd (di_seq (de_var 1)) (blkOk_by (N := n_power_rows) (sc := relS _ (defScope s_power_rows)) (by decide +kernel)) (fun _ _ _ _ _ => (pg_name (i := 4) sc_power_rows.nd rfl (by first | exact Or.inl rfl | exact Or.inr rfl))) (fun _ _ _ _ _ => dp_nil) (fun _ _ _ _ _ => (de_call (ok_power_at T) hr (by decide) (by rfl) (da_cons (de_var 0) (da_cons (de_var 4) (da_cons (de_var 3) da_nil))))) (by decide)))))) (by decide))))))))
def n_book_by_powers : List PySem.Str := ["prime", "numbers", "exponents"]
theorem sc_book_by_powers : FnScope n_book_by_powers ["prime", "numbers", "exponents"] (defScope s_book_by_powers) := ⟨rfl, rfl, rfl, by decide +kernel, rfl, by decide +kernel, by decide +kernel⟩
def b_book_by_powers : MS := (mRet (mCall m_book_of_words (mCons (mVar 0) (mCons (mLen (mVar 1)) (mCons (mCall m_power_rows (mCons (mVar 0) (mCons (mVar 1) (mCons (mVar 2) mNil)))) mNil)))))
def m_book_by_powers : List PyData → Option PyData := mFn 3 3 b_book_by_powers
theorem ok_book_by_powers {P : Program} {w : World} {K : PySem.W.Frag} {mg : PySem.Str → Option Value} {base : Heap} (T : Tx K mg) : Fn P w K mg base 6 "book_by_powers" ["prime", "numbers", "exponents"] [] m_book_by_powers :=
  T.mk_ 31 d_book_by_powers sc_book_by_powers (fun _ _ _ _ _ _ us hl => match us, hl with | [_, _, _], _ => rfl) fun f cdv A outer s H E hr =>
    (dz_one (ds_ret (dr_e (de_call (ok_book_of_words T) hr (by decide) (by rfl) (da_cons (de_var 0) (da_cons (de_len (by rfl) (T.free 82) (de_w (de_var 1))) (da_cons (de_call (ok_power_rows T) hr (by decide) (by rfl) (da_cons (de_var 0) (da_cons (de_var 1) (da_cons (de_var 2) da_nil)))) da_nil)))))))
def n_classes_by : List PySem.Str := ["wide", "many", "j"]
theorem sc_classes_by : FnScope n_classes_by ["wide", "many"] (defScope s_classes_by) := ⟨rfl, rfl, rfl, by decide +kernel, rfl, by decide +kernel, by decide +kernel⟩
def b_classes_by : MS := (mRet (mTupOf (lM (mLc (mRg1 (mVar 1)) (.nm 2) mYes (fun r => (mRg2 (mBin gMul (mVar 2) (mVar 0)) (mBin gMul (mBin gAdd (mVar 2) (mC (.int 1))) (mVar 0)) r).map PyData.tuple) [2]))))
def m_classes_by : List PyData → Option PyData := mFn 2 3 b_classes_by
theorem ok_classes_by {P : Program} {w : World} {K : PySem.W.Frag} {mg : PySem.Str → Option Value} {base : Heap} (T : Tx K mg) : Fn P w K mg base 1 "classes_by" ["wide", "many"] [] m_classes_by :=
  T.mk_ 32 d_classes_by sc_classes_by (fun _ _ _ _ _ _ us hl => match us, hl with | [_, _], _ => rfl) fun f cdv A outer s H E hr =>
    (dz_one (ds_ret (dr_e (de_tuple (by rfl) (T.free 81) (de_w (dn_w (dn_lc (own := [("j", 2)]) rfl sc_classes_by.nd (di_range1 (by rfl) (T.free 86) (de_var 1)) (blkOk_by (N := n_classes_by) (sc := defScope s_classes_by) (by decide +kernel)) (fun _ _ _ _ _ => (pg_name (i := 2) sc_classes_by.nd rfl (by first | exact Or.inl rfl | exact Or.inr rfl))) (fun _ _ _ _ _ => dp_nil) (fun _ _ _ _ _ => (de_tupRg rfl (by rfl) (T.free 81) (by rfl) (T.free 86) (de_mul (de_var 2) (de_var 0)) (de_mul (de_add (de_var 2) de_int) (de_var 0)))) (by decide))))))))
def n_parted_classes : List PySem.Str := ["wide", "many", "step", "found", "j", "i"]
theorem sc_parted_classes : FnScope n_parted_classes ["wide", "many", "step"] (defScope s_parted_classes) := ⟨rfl, rfl, rfl, by decide +kernel, rfl, by decide +kernel, by decide +kernel⟩
def b_parted_classes : MS := (mSeq2 (mSetO 3 (mLst mNil)) (mSeq2 (mFor (mRg1 (mVar 1)) (.nm 4) (mExt 3 (mLc (mRg1 (mVar 2)) (.nm 5) mYes (fun r => (mRg3 (mBin gAdd (mBin gMul (mVar 4) (mVar 0)) (mVar 5)) (mBin gMul (mBin gAdd (mVar 4) (mC (.int 1))) (mVar 0)) (mVar 2) r).map PyData.tuple) [5]))) (mRet (mTupOf (mOwn 3)))))
def m_parted_classes : List PyData → Option PyData := mFn 3 6 b_parted_classes
theorem ok_parted_classes {P : Program} {w : World} {K : PySem.W.Frag} {mg : PySem.Str → Option Value} {base : Heap} (T : Tx K mg) : Fn P w K mg base 1 "parted_classes" ["wide", "many", "step"] [] m_parted_classes :=
  T.mk_ 33 d_parted_classes sc_parted_classes (fun _ _ _ _ _ _ us hl => match us, hl with | [_, _, _], _ => rfl) fun f cdv A outer s H E hr =>
    (dz_cons (ds_setO (i := 3) sc_parted_classes.nd rfl (by first | exact Or.inl rfl | exact Or.inr rfl) (dn_lst da_nil)) (dz_cons (ds_for PassesOwn.never rfl (di_range1 (by rfl) (T.free 86) (de_var 1)) (pg_name (i := 4) sc_parted_classes.nd rfl (by first | exact Or.inl rfl | exact Or.inr rfl)) (dz_one (ds_ext (i := 3) (ps_expr (pe_bm PySem.F.plainAttrs_list PySem.F.slot_list_extend PySem.F.type_list_extend mt_extend (pv 3) (pa_cons (dn_lc (own := [("i", 5)]) rfl sc_parted_classes.nd (di_range1 (by rfl) (T.free 86) (de_var 2)) (blkOk_by (N := n_parted_classes) (sc := defScope s_parted_classes) (by decide +kernel)) (fun _ _ _ _ _ => (pg_name (i := 5) sc_parted_classes.nd rfl (by first | exact Or.inl rfl | exact Or.inr rfl))) (fun _ _ _ _ _ => dp_nil) (fun _ _ _ _ _ => (de_tupRg3 rfl (by rfl) (T.free 81) (by rfl) (T.free 86) (de_add (de_mul (de_var 4) (de_var 0)) (de_var 5)) (de_mul (de_add (de_var 4) de_int) (de_var 0)) (de_var 2))) (by decide)) pa_nil)))))) (dz_one (ds_ret (dr_e (de_tuple (by rfl) (T.free 81) (dw_own 3)))))))
def n_nested_exponents : List PySem.Str := ["few", "wide", "inner", "many", "e"]
theorem sc_nested_exponents : FnScope n_nested_exponents ["few", "wide", "inner", "many"] (defScope s_nested_exponents) := ⟨rfl, rfl, rfl, by decide +kernel, rfl, by decide +kernel, by decide +kernel⟩
def b_nested_exponents : MS := (mRet (mTupOf (lM (mLc (mRg1 (mBin gMul (mVar 1) (mVar 3))) (.nm 4) (mAndB (mCmpB pNe (mBin gMod (mVar 4) (mBin gAdd (mVar 0) (mC (.int 1)))) (mVar 0)) (mCmpB pLt (mBin gMod (mVar 4) (mVar 1)) (mVar 2))) (mVar 4) [4]))))
def m_nested_exponents : List PyData → Option PyData := mFn 4 5 b_nested_exponents
theorem ok_nested_exponents {P : Program} {w : World} {K : PySem.W.Frag} {mg : PySem.Str → Option Value} {base : Heap} (T : Tx K mg) : Fn P w K mg base 1 "nested_exponents" ["few", "wide", "inner", "many"] [] m_nested_exponents :=
  T.mk_ 34 d_nested_exponents sc_nested_exponents (fun _ _ _ _ _ _ us hl => match us, hl with | [_, _, _, _], _ => rfl) fun f cdv A outer s H E hr =>
    (dz_one (ds_ret (dr_e (de_tuple (by rfl) (T.free 81) (de_w (dn_w (dn_lc (own := [("e", 4)]) rfl sc_nested_exponents.nd (di_range1 (by rfl) (T.free 86) (de_mul (de_var 1) (de_var 3))) (blkOk_by (N := n_nested_exponents) (sc := defScope s_nested_exponents) (by decide +kernel)) (fun _ _ _ _ _ => (pg_name (i := 4) sc_nested_exponents.nd rfl (by first | exact Or.inl rfl | exact Or.inr rfl))) (fun _ _ _ _ _ => (dp_one (dt_q (dq_and (dt_ne (de_mod (de_var 4) (de_add (de_var 0) de_int)) (de_var 0)) (dq_and1 (dt_lt (de_mod (de_var 4) (de_var 1)) (de_var 2))))))) (fun _ _ _ _ _ => (de_var 4)) (by decide))))))))
def n_want_nested : List PySem.Str := ["few", "wide"]
theorem sc_want_nested : FnScope n_want_nested ["few", "wide"] (defScope s_want_nested) := ⟨rfl, rfl, rfl, by decide +kernel, rfl, by decide +kernel, by decide +kernel⟩
def b_want_nested : MS := (mSeq2 (mDrop (mCall m_want_from (mCons (mC (.int 1)) (mCons (mVar 0) (mCons (mC (.str "few")) mNil))))) (mDrop (mCall (fun ds => m_want (ds ++ [.int (-1)])) (mCons (mAnd (mCall m_is_from (mCons (mC (.int 1)) (mCons (mVar 1) mNil))) (bE (mCmpB pEq (mBin gMod (mVar 1) (mBin gAdd (mVar 0) (mC (.int 1)))) (mC (.int 0))))) (mCons (mC (.str "wide")) mNil)))))
def m_want_nested : List PyData → Option PyData := mFn 2 2 b_want_nested
theorem ok_want_nested {P : Program} {w : World} {K : PySem.W.Frag} {mg : PySem.Str → Option Value} {base : Heap} (T : Tx K mg) : Fn P w K mg base 5 "want_nested" ["few", "wide"] [] m_want_nested :=
  T.mk_ 35 d_want_nested sc_want_nested (fun _ _ _ _ _ _ us hl => match us, hl with | [_, _], _ => rfl) fun f cdv A outer s H E hr =>
    (dz_cons (ds_expr (de_call (ok_want_from T) hr (by decide) (by rfl) (da_cons de_int (da_cons (de_var 0) (da_cons de_str da_nil))))) (dz_one (ds_expr (de_callX (dd := [.int (-1)]) (ok_want T) (fun _ => .cons (by constructor) .nil) hr (by decide) (by rfl) (da_cons (de_and (de_call (ok_is_from T) hr (by decide) (by rfl) (da_cons de_int (da_cons (de_var 1) da_nil))) (de_one (de_eq (de_mod (de_var 1) (de_add (de_var 0) de_int)) de_int))) (da_cons de_str da_nil))))))
end Mf
set_option Elab.async false
set_option linter.all false
set_option maxRecDepth 100000
set_option maxHeartbeats 4000000
namespace Mf
open PySem PySem.Spec PyProof.Rows L2 Ly
def n_want_inner : List PySem.Str := ["wide", "inner"]
theorem sc_want_inner : FnScope n_want_inner ["wide", "inner"] (defScope s_want_inner) := ⟨rfl, rfl, rfl, by decide +kernel, rfl, by decide +kernel, by decide +kernel⟩
def b_want_inner : MS := (mDrop (mCall (fun ds => m_want (ds ++ [.int (-1)])) (mCons (mAnd (mCall m_is_from (mCons (mC (.int 1)) (mCons (mVar 1) mNil))) (bE (mCmpB pLe (mVar 1) (mVar 0)))) (mCons (mC (.str "inner")) mNil))))
def m_want_inner : List PyData → Option PyData := mFn 2 2 b_want_inner
theorem ok_want_inner {P : Program} {w : World} {K : PySem.W.Frag} {mg : PySem.Str → Option Value} {base : Heap} (T : Tx K mg) : Fn P w K mg base 4 "want_inner" ["wide", "inner"] [] m_want_inner :=
  T.mk_ 36 d_want_inner sc_want_inner (fun _ _ _ _ _ _ us hl => match us, hl with | [_, _], _ => rfl) fun f cdv A outer s H E hr =>
    (dz_one (ds_expr (de_callX (dd := [.int (-1)]) (ok_want T) (fun _ => .cons (by constructor) .nil) hr (by decide) (by rfl) (da_cons (de_and (de_call (ok_is_from T) hr (by decide) (by rfl) (da_cons de_int (da_cons (de_var 1) da_nil))) (de_one (de_le (de_var 1) (de_var 0)))) (da_cons de_str da_nil)))))
def n_want_wide_classes : List PySem.Str := ["prime", "few", "wide"]
theorem sc_want_wide_classes : FnScope n_want_wide_classes ["prime", "few", "wide"] (defScope s_want_wide_classes) := ⟨rfl, rfl, rfl, by decide +kernel, rfl, by decide +kernel, by decide +kernel⟩
def b_want_wide_classes : MS := (mSeq2 (mDrop (mCall m_want_prime (mCons (mVar 0) mNil))) (mSeq2 (mDrop (mCall m_want_nested (mCons (mVar 1) (mCons (mVar 2) mNil)))) (mDrop (mCall (fun ds => m_want (ds ++ [.int (-1)])) (mCons (bE (mCmpB pEq (mBin gMod (mBin gSub (mVar 0) (mC (.int 1))) (mVar 2)) (mC (.int 0)))) (mCons (mC (.str "wide")) mNil))))))
def m_want_wide_classes : List PyData → Option PyData := mFn 3 3 b_want_wide_classes
theorem ok_want_wide_classes {P : Program} {w : World} {K : PySem.W.Frag} {mg : PySem.Str → Option Value} {base : Heap} (T : Tx K mg) : Fn P w K mg base 6 "want_wide_classes" ["prime", "few", "wide"] [] m_want_wide_classes :=
  T.mk_ 37 d_want_wide_classes sc_want_wide_classes (fun _ _ _ _ _ _ us hl => match us, hl with | [_, _, _], _ => rfl) fun f cdv A outer s H E hr =>
    (dz_cons (ds_expr (de_call (ok_want_prime T) hr (by decide) (by rfl) (da_cons (de_var 0) da_nil))) (dz_cons (ds_expr (de_call (ok_want_nested T) hr (by decide) (by rfl) (da_cons (de_var 1) (da_cons (de_var 2) da_nil)))) (dz_one (ds_expr (de_callX (dd := [.int (-1)]) (ok_want T) (fun _ => .cons (by constructor) .nil) hr (by decide) (by rfl) (da_cons (de_eq (de_mod (de_sub (de_var 0) de_int) (de_var 2)) de_int) (da_cons de_str da_nil)))))))
def n_nested_groups : List PySem.Str := ["prime", "few", "wide", "many"]
theorem sc_nested_groups : FnScope n_nested_groups ["prime", "few", "wide", "many"] (defScope s_nested_groups) := ⟨rfl, rfl, rfl, by decide +kernel, rfl, by decide +kernel, by decide +kernel⟩
def b_nested_groups : MS := (mSeq2 (mDrop (mCall m_want_wide_classes (mCons (mVar 0) (mCons (mVar 1) (mCons (mVar 2) mNil))))) (mSeq2 (mDrop (mCall m_want_many (mCons (mVar 0) (mCons (mVar 2) (mCons (mVar 3) mNil))))) (mRet (mTup (mCons (mCall m_parted_classes (mCons (mVar 2) (mCons (mVar 3) (mCons (mBin gDiv (mVar 2) (mBin gAdd (mVar 1) (mC (.int 1)))) mNil)))) (mCons (mCall m_classes_by (mCons (mVar 2) (mCons (mVar 3) mNil))) mNil))))))
def m_nested_groups : List PyData → Option PyData := mFn 4 4 b_nested_groups
theorem ok_nested_groups {P : Program} {w : World} {K : PySem.W.Frag} {mg : PySem.Str → Option Value} {base : Heap} (T : Tx K mg) : Fn P w K mg base 7 "nested_groups" ["prime", "few", "wide", "many"] [] m_nested_groups :=
  T.mk_ 38 d_nested_groups sc_nested_groups (fun _ _ _ _ _ _ us hl => match us, hl with | [_, _, _, _], _ => rfl) fun f cdv A outer s H E hr =>
    (dz_cons (ds_expr (de_call (ok_want_wide_classes T) hr (by decide) (by rfl) (da_cons (de_var 0) (da_cons (de_var 1) (da_cons (de_var 2) da_nil))))) (dz_cons (ds_expr (de_call (ok_want_many T) hr (by decide) (by rfl) (da_cons (de_var 0) (da_cons (de_var 2) (da_cons (de_var 3) da_nil))))) (dz_one (ds_ret (dr_e (de_tup (da_cons (de_call (ok_parted_classes T) hr (by decide) (by rfl) (da_cons (de_var 2) (da_cons (de_var 3) (da_cons (de_div (de_var 2) (de_add (de_var 1) de_int)) da_nil)))) (da_cons (de_call (ok_classes_by T) hr (by decide) (by rfl) (da_cons (de_var 2) (da_cons (de_var 3) da_nil))) da_nil))))))))
def n_nested_book : List PySem.Str := ["prime", "few", "wide", "inner", "many", "told", "used"]
theorem sc_nested_book : FnScope n_nested_book ["prime", "few", "wide", "inner", "many", "told"] (defScope s_nested_book) := ⟨rfl, rfl, rfl, by decide +kernel, rfl, by decide +kernel, by decide +kernel⟩
def b_nested_book : MS := (mSeq2 (mDrop (mCall m_want_wide_classes (mCons (mVar 0) (mCons (mVar 1) (mCons (mVar 2) mNil))))) (mSeq2 (mDrop (mCall m_want_inner (mCons (mVar 2) (mCons (mVar 3) mNil)))) (mSeq2 (mDrop (mCall m_want_many (mCons (mVar 0) (mCons (mVar 2) (mCons (mVar 4) mNil))))) (mSeq2 (mSet 6 (mCall m_nested_exponents (mCons (mVar 1) (mCons (mVar 2) (mCons (mVar 3) (mCons (mVar 4) mNil)))))) (mSeq2 (mDrop (mCall m_want_told (mCons (mLen (mVar 6)) (mCons (mVar 5) mNil)))) (mRet (mCall m_book_by_powers (mCons (mVar 0) (mCons (mCall m_numbers_by (mCons (mVar 0) (mCons (mVar 2) (mCons (mVar 4) mNil)))) (mCons (mTake .tuple asTup (mVar 6) (mVar 5)) mNil))))))))))
def m_nested_book : List PyData → Option PyData := mFn 6 7 b_nested_book
theorem ok_nested_book {P : Program} {w : World} {K : PySem.W.Frag} {mg : PySem.Str → Option Value} {base : Heap} (T : Tx K mg) : Fn P w K mg base 7 "nested_book" ["prime", "few", "wide", "inner", "many", "told"] [] m_nested_book :=
  T.mk_ 39 d_nested_book sc_nested_book (fun _ _ _ _ _ _ us hl => match us, hl with | [_, _, _, _, _, _], _ => rfl) fun f cdv A outer s H E hr =>
    (dz_cons (ds_expr (de_call (ok_want_wide_classes T) hr (by decide) (by rfl) (da_cons (de_var 0) (da_cons (de_var 1) (da_cons (de_var 2) da_nil))))) (dz_cons (ds_expr (de_call (ok_want_inner T) hr (by decide) (by rfl) (da_cons (de_var 2) (da_cons (de_var 3) da_nil)))) (dz_cons (ds_expr (de_call (ok_want_many T) hr (by decide) (by rfl) (da_cons (de_var 0) (da_cons (de_var 2) (da_cons (de_var 4) da_nil))))) (dz_cons (ds_set (i := 6) sc_nested_book.nd rfl (by first | exact Or.inl rfl | exact Or.inr rfl) (de_call (ok_nested_exponents T) hr (by decide) (by rfl) (da_cons (de_var 1) (da_cons (de_var 2) (da_cons (de_var 3) (da_cons (de_var 4) da_nil)))))) (dz_cons (ds_expr (de_call (ok_want_told T) hr (by decide) (by rfl) (da_cons (de_len (by rfl) (T.free 82) (de_w (de_var 6))) (da_cons (de_var 5) da_nil)))) (dz_one (ds_ret (dr_e (de_call (ok_book_by_powers T) hr (by decide) (by rfl) (da_cons (de_var 0) (da_cons (de_call (ok_numbers_by T) hr (by decide) (by rfl) (da_cons (de_var 0) (da_cons (de_var 2) (da_cons (de_var 4) da_nil)))) (da_cons (de_takeT (de_var 6) (de_var 5)) da_nil))))))))))))
def n_have_no_common : List PySem.Str := ["one", "other", "first", "last"]
theorem sc_have_no_common : FnScope n_have_no_common ["one", "other"] (defScope s_have_no_common) := ⟨rfl, rfl, rfl, by decide +kernel, rfl, by decide +kernel, by decide +kernel⟩
def b_have_no_common : MS := (mSeq2 (mPar 2 3 (sV (mVar 0)) (sV (mVar 1))) (mSeq2 (mWhile 1000 (mCmpB pGt (mVar 3) (mC (.int 0))) (mPar 2 3 (sV (mVar 3)) (sV (mBin gMod (mVar 2) (mVar 3))))) (mRet (bE (mCmpB pEq (mVar 2) (mC (.int 1)))))))
def m_have_no_common : List PyData → Option PyData := mFn 2 4 b_have_no_common
theorem ok_have_no_common {P : Program} {w : World} {K : PySem.W.Frag} {mg : PySem.Str → Option Value} {base : Heap} (T : Tx K mg) : Fn P w K mg base 1 "have_no_common" ["one", "other"] [] m_have_no_common :=
  T.mk_ 40 d_have_no_common sc_have_no_common (fun _ _ _ _ _ _ us hl => match us, hl with | [_, _], _ => rfl) fun f cdv A outer s H E hr =>
    (dz_cons (ds_vv fL_ok (ps_prL rfl sc_have_no_common.nd (i := 2) (j := 3) rfl rfl (by decide) rfl rfl (de_var 0) (de_var 1))) (dz_cons (ds_while 1000 PassesOwn.never (dt_gt (de_var 3) de_int) (dz_one (ds_vv fL_ok (ps_prL rfl sc_have_no_common.nd (i := 2) (j := 3) rfl rfl (by decide) rfl rfl (de_var 3) (de_mod (de_var 2) (de_var 3)))))) (dz_one (ds_ret (dr_e (de_eq (de_var 2) de_int))))))
def n_crossed_exponents : List PySem.Str := ["one", "other", "many", "top", "e"]
theorem sc_crossed_exponents : FnScope n_crossed_exponents ["one", "other", "many"] (defScope s_crossed_exponents) := ⟨rfl, rfl, rfl, by decide +kernel, rfl, by decide +kernel, by decide +kernel⟩
def b_crossed_exponents : MS := (mSeq2 (mSet 3 (mBin gMul (mBin gMul (mVar 0) (mVar 1)) (mVar 2))) (mRet (mTupOf (lM (mLc (mRg1 (mVar 3)) (.nm 4) (mAndB (mCmpB pNe (mBin gMod (mVar 4) (mVar 0)) (mBin gSub (mVar 0) (mC (.int 1)))) (mCmpB pNe (mBin gMod (mVar 4) (mVar 1)) (mBin gSub (mVar 1) (mC (.int 1))))) (mVar 4) [4])))))
def m_crossed_exponents : List PyData → Option PyData := mFn 3 5 b_crossed_exponents
theorem ok_crossed_exponents {P : Program} {w : World} {K : PySem.W.Frag} {mg : PySem.Str → Option Value} {base : Heap} (T : Tx K mg) : Fn P w K mg base 1 "crossed_exponents" ["one", "other", "many"] [] m_crossed_exponents :=
  T.mk_ 41 d_crossed_exponents sc_crossed_exponents (fun _ _ _ _ _ _ us hl => match us, hl with | [_, _, _], _ => rfl) fun f cdv A outer s H E hr =>
    (dz_cons (ds_set (i := 3) sc_crossed_exponents.nd rfl (by first | exact Or.inl rfl | exact Or.inr rfl) (de_mul (de_mul (de_var 0) (de_var 1)) (de_var 2))) (dz_one (ds_ret (dr_e (de_tuple (by rfl) (T.free 81) (de_w (dn_w (dn_lc (own := [("e", 4)]) rfl sc_crossed_exponents.nd (di_range1 (by rfl) (T.free 86) (de_var 3)) (blkOk_by (N := n_crossed_exponents) (sc := defScope s_crossed_exponents) (by decide +kernel)) (fun _ _ _ _ _ => (pg_name (i := 4) sc_crossed_exponents.nd rfl (by first | exact Or.inl rfl | exact Or.inr rfl))) (fun _ _ _ _ _ => (dp_one (dt_q (dq_and (dt_ne (de_mod (de_var 4) (de_var 0)) (de_sub (de_var 0) de_int)) (dq_and1 (dt_ne (de_mod (de_var 4) (de_var 1)) (de_sub (de_var 1) de_int))))))) (fun _ _ _ _ _ => (de_var 4)) (by decide)))))))))
def n_want_crossed : List PySem.Str := ["one", "other"]
theorem sc_want_crossed : FnScope n_want_crossed ["one", "other"] (defScope s_want_crossed) := ⟨rfl, rfl, rfl, by decide +kernel, rfl, by decide +kernel, by decide +kernel⟩
def b_want_crossed : MS := (mSeq2 (mDrop (mCall m_want_from (mCons (mC (.int 2)) (mCons (mVar 0) (mCons (mC (.str "one")) mNil))))) (mDrop (mCall (fun ds => m_want (ds ++ [.int (-1)])) (mCons (mAnd (mCall m_is_from (mCons (mC (.int 2)) (mCons (mVar 1) mNil))) (mCall m_have_no_common (mCons (mVar 0) (mCons (mVar 1) mNil)))) (mCons (mC (.str "other")) mNil)))))
def m_want_crossed : List PyData → Option PyData := mFn 2 2 b_want_crossed
theorem ok_want_crossed {P : Program} {w : World} {K : PySem.W.Frag} {mg : PySem.Str → Option Value} {base : Heap} (T : Tx K mg) : Fn P w K mg base 5 "want_crossed" ["one", "other"] [] m_want_crossed :=
  T.mk_ 42 d_want_crossed sc_want_crossed (fun _ _ _ _ _ _ us hl => match us, hl with | [_, _], _ => rfl) fun f cdv A outer s H E hr =>
    (dz_cons (ds_expr (de_call (ok_want_from T) hr (by decide) (by rfl) (da_cons de_int (da_cons (de_var 0) (da_cons de_str da_nil))))) (dz_one (ds_expr (de_callX (dd := [.int (-1)]) (ok_want T) (fun _ => .cons (by constructor) .nil) hr (by decide) (by rfl) (da_cons (de_and (de_call (ok_is_from T) hr (by decide) (by rfl) (da_cons de_int (da_cons (de_var 1) da_nil))) (de_one (de_call (ok_have_no_common T) hr (by decide) (by rfl) (da_cons (de_var 0) (da_cons (de_var 1) da_nil))))) (da_cons de_str da_nil))))))
def n_crossed_groups : List PySem.Str := ["one", "other", "many"]
theorem sc_crossed_groups : FnScope n_crossed_groups ["one", "other", "many"] (defScope s_crossed_groups) := ⟨rfl, rfl, rfl, by decide +kernel, rfl, by decide +kernel, by decide +kernel⟩
def b_crossed_groups : MS := (mSeq2 (mDrop (mCall m_want_crossed (mCons (mVar 0) (mCons (mVar 1) mNil)))) (mSeq2 (mDrop (mCall m_want_from (mCons (mC (.int 1)) (mCons (mVar 2) (mCons (mC (.str "many")) mNil))))) (mRet (mTup (mCons (mCall m_parted_classes (mCons (mBin gMul (mVar 0) (mVar 1)) (mCons (mVar 2) (mCons (mVar 1) mNil)))) (mCons (mCall m_parted_classes (mCons (mBin gMul (mVar 0) (mVar 1)) (mCons (mVar 2) (mCons (mVar 0) mNil)))) mNil))))))
def m_crossed_groups : List PyData → Option PyData := mFn 3 3 b_crossed_groups
theorem ok_crossed_groups {P : Program} {w : World} {K : PySem.W.Frag} {mg : PySem.Str → Option Value} {base : Heap} (T : Tx K mg) : Fn P w K mg base 6 "crossed_groups" ["one", "other", "many"] [] m_crossed_groups :=
  T.mk_ 43 d_crossed_groups sc_crossed_groups (fun _ _ _ _ _ _ us hl => match us, hl with | [_, _, _], _ => rfl) fun f cdv A outer s H E hr =>
    (dz_cons (ds_expr (de_call (ok_want_crossed T) hr (by decide) (by rfl) (da_cons (de_var 0) (da_cons (de_var 1) da_nil)))) (dz_cons (ds_expr (de_call (ok_want_from T) hr (by decide) (by rfl) (da_cons de_int (da_cons (de_var 2) (da_cons de_str da_nil))))) (dz_one (ds_ret (dr_e (de_tup (da_cons (de_call (ok_parted_classes T) hr (by decide) (by rfl) (da_cons (de_mul (de_var 0) (de_var 1)) (da_cons (de_var 2) (da_cons (de_var 1) da_nil)))) (da_cons (de_call (ok_parted_classes T) hr (by decide) (by rfl) (da_cons (de_mul (de_var 0) (de_var 1)) (da_cons (de_var 2) (da_cons (de_var 0) da_nil)))) da_nil))))))))
def n_crossed_book : List PySem.Str := ["prime", "one", "other", "many", "told", "used"]
theorem sc_crossed_book : FnScope n_crossed_book ["prime", "one", "other", "many", "told"] (defScope s_crossed_book) := ⟨rfl, rfl, rfl, by decide +kernel, rfl, by decide +kernel, by decide +kernel⟩
def b_crossed_book : MS := (mSeq2 (mDrop (mCall m_want_prime (mCons (mVar 0) mNil))) (mSeq2 (mDrop (mCall m_want_crossed (mCons (mVar 1) (mCons (mVar 2) mNil)))) (mSeq2 (mDrop (mCall (fun ds => m_want (ds ++ [.int (-1)])) (mCons (bE (mCmpB pEq (mBin gMod (mBin gSub (mVar 0) (mC (.int 1))) (mBin gMul (mVar 1) (mVar 2))) (mC (.int 0)))) (mCons (mC (.str "other")) mNil)))) (mSeq2 (mDrop (mCall m_want_many (mCons (mVar 0) (mCons (mBin gMul (mVar 1) (mVar 2)) (mCons (mVar 3) mNil))))) (mSeq2 (mSet 5 (mCall m_crossed_exponents (mCons (mVar 1) (mCons (mVar 2) (mCons (mVar 3) mNil))))) (mSeq2 (mDrop (mCall m_want_told (mCons (mLen (mVar 5)) (mCons (mVar 4) mNil)))) (mRet (mCall m_book_by_powers (mCons (mVar 0) (mCons (mCall m_numbers_by (mCons (mVar 0) (mCons (mBin gMul (mVar 1) (mVar 2)) (mCons (mVar 3) mNil)))) (mCons (mTake .tuple asTup (mVar 5) (mVar 4)) mNil)))))))))))
def m_crossed_book : List PyData → Option PyData := mFn 5 6 b_crossed_book
theorem ok_crossed_book {P : Program} {w : World} {K : PySem.W.Frag} {mg : PySem.Str → Option Value} {base : Heap} (T : Tx K mg) : Fn P w K mg base 7 "crossed_book" ["prime", "one", "other", "many", "told"] [] m_crossed_book :=
  T.mk_ 44 d_crossed_book sc_crossed_book (fun _ _ _ _ _ _ us hl => match us, hl with | [_, _, _, _, _], _ => rfl) fun f cdv A outer s H E hr =>
    (dz_cons (ds_expr (de_call (ok_want_prime T) hr (by decide) (by rfl) (da_cons (de_var 0) da_nil))) (dz_cons (ds_expr (de_call (ok_want_crossed T) hr (by decide) (by rfl) (da_cons (de_var 1) (da_cons (de_var 2) da_nil)))) (dz_cons (ds_expr (de_callX (dd := [.int (-1)]) (ok_want T) (fun _ => .cons (by constructor) .nil) hr (by decide) (by rfl) (da_cons (de_eq (de_mod (de_sub (de_var 0) de_int) (de_mul (de_var 1) (de_var 2))) de_int) (da_cons de_str da_nil)))) (dz_cons (ds_expr (de_call (ok_want_many T) hr (by decide) (by rfl) (da_cons (de_var 0) (da_cons (de_mul (de_var 1) (de_var 2)) (da_cons (de_var 3) da_nil))))) (dz_cons (ds_set (i := 5) sc_crossed_book.nd rfl (by first | exact Or.inl rfl | exact Or.inr rfl) (de_call (ok_crossed_exponents T) hr (by decide) (by rfl) (da_cons (de_var 1) (da_cons (de_var 2) (da_cons (de_var 3) da_nil))))) (dz_cons (ds_expr (de_call (ok_want_told T) hr (by decide) (by rfl) (da_cons (de_len (by rfl) (T.free 82) (de_w (de_var 5))) (da_cons (de_var 4) da_nil)))) (dz_one (ds_ret (dr_e (de_call (ok_book_by_powers T) hr (by decide) (by rfl) (da_cons (de_var 0) (da_cons (de_call (ok_numbers_by T) hr (by decide) (by rfl) (da_cons (de_var 0) (da_cons (de_mul (de_var 1) (de_var 2)) (da_cons (de_var 3) da_nil)))) (da_cons (de_takeT (de_var 5) (de_var 4)) da_nil)))))))))))))
def n_lots_of : List PySem.Str := ["places", "many", "found", "lap", "lot", "place"]
theorem sc_lots_of : FnScope n_lots_of ["places", "many"] (defScope s_lots_of) := ⟨rfl, rfl, rfl, by decide +kernel, rfl, by decide +kernel, by decide +kernel⟩
def b_lots_of : MS := (mSeq2 (mSet 2 (lM (mLst (mCons (mTup mNil) mNil)))) (mSeq2 (mFor (mRg1 (mVar 1)) (.nm 3) (mSet 2 (lM (mLc2 (mSeq (mVar 2)) (.nm 4) (mSeq (mVar 0)) (.nm 5) (mOrB (mCmpB pEq (mLen (mVar 4)) (mC (.int 0))) (mCmpB pGt (mVar 5) (mIx (mVar 4) (mNeg (mC (.int 1)))))) (mTup (mStar (mVar 4) (mCons (mVar 5) mNil))) [4, 5] [5])))) (mRet (mVar 2))))
def m_lots_of : List PyData → Option PyData := mFn 2 6 b_lots_of
theorem ok_lots_of {P : Program} {w : World} {K : PySem.W.Frag} {mg : PySem.Str → Option Value} {base : Heap} (T : Tx K mg) : Fn P w K mg base 1 "lots_of" ["places", "many"] [] m_lots_of :=
  T.mk_ 45 d_lots_of sc_lots_of (fun _ _ _ _ _ _ us hl => match us, hl with | [_, _], _ => rfl) fun f cdv A outer s H E hr =>
    (dz_cons (ds_set (i := 2) sc_lots_of.nd rfl (by first | exact Or.inl rfl | exact Or.inr rfl) (dn_w (dn_lst (da_cons (de_tup da_nil) da_nil)))) (dz_cons (ds_for PassesOwn.never rfl (di_range1 (by rfl) (T.free 86) (de_var 1)) (pg_name (i := 3) sc_lots_of.nd rfl (by first | exact Or.inl rfl | exact Or.inr rfl)) (dz_one (ds_V (dx_setLc2 (vs1 := [5]) (i := 2) (own := [("lot", 4), ("place", 5)]) rfl sc_lots_of.nd rfl rfl (sw_true rfl rfl rfl (by decide +kernel)) (di_seq (de_var 2)) (blkOk_by (N := n_lots_of) (sc := defScope s_lots_of) (by decide +kernel)) (by decide) (fun _ _ _ _ _ => (pg_name (i := 4) sc_lots_of.nd rfl (by first | exact Or.inl rfl | exact Or.inr rfl))) (fun _ _ _ _ _ => (di_seq (de_var 0))) (fun _ _ _ _ _ => (pg_name (i := 5) sc_lots_of.nd rfl (by first | exact Or.inl rfl | exact Or.inr rfl))) (fun _ _ _ _ _ => (dp_one (dt_q (dq_or (dt_eq (de_len (by rfl) (T.free 82) (de_w (de_var 4))) de_int) (dq_or1 (dt_gt (de_var 5) (de_ix (de_w (de_var 4)) (de_neg de_int)))))))) (fun _ _ _ _ _ => (de_tup (da_star (de_w (de_var 4)) (da_cons (de_var 5) da_nil)))) (by decide) (by decide))))) (dz_one (ds_ret (dr_e (de_var 2))))))
def n_all_places : List PySem.Str := ["size"]
theorem sc_all_places : FnScope n_all_places ["size"] (defScope s_all_places) := ⟨rfl, rfl, rfl, by decide +kernel, rfl, by decide +kernel, by decide +kernel⟩
def b_all_places : MS := (mRet (lM (mRg1 (mVar 0))))
def m_all_places : List PyData → Option PyData := mFn 1 1 b_all_places
theorem ok_all_places {P : Program} {w : World} {K : PySem.W.Frag} {mg : PySem.Str → Option Value} {base : Heap} (T : Tx K mg) : Fn P w K mg base 1 "all_places" ["size"] [] m_all_places :=
  T.mk_ 46 d_all_places sc_all_places (fun _ _ _ _ _ _ us hl => match us, hl with | [_], _ => rfl) fun f cdv A outer s H E hr =>
    (dz_one (ds_ret (dr_n (dn_listRg rfl (by rfl) (T.free 87) (by rfl) (T.free 86) (de_var 0)))))
def n_spread_row : List PySem.Str := ["row", "lot", "size", "found", "place", "number"]
theorem sc_spread_row : FnScope n_spread_row ["row", "lot", "size"] (defScope s_spread_row) := ⟨rfl, rfl, rfl, by decide +kernel, rfl, by decide +kernel, by decide +kernel⟩
def b_spread_row : MS := (mSeq2 (mSetO 3 (mLc (mRg1 (mVar 2)) (.nm 4) mYes (mC (.int 0)) [4])) (mSeq2 (mFor (mZip (mVar 1) (mVar 0)) (.pr 4 5) (mPut 3 (mVar 4) (mVar 5))) (mRet (mTupOf (mOwn 3)))))
def m_spread_row : List PyData → Option PyData := mFn 3 6 b_spread_row
theorem ok_spread_row {P : Program} {w : World} {K : PySem.W.Frag} {mg : PySem.Str → Option Value} {base : Heap} (T : Tx K mg) : Fn P w K mg base 1 "spread_row" ["row", "lot", "size"] [] m_spread_row :=
  T.mk_ 47 d_spread_row sc_spread_row (fun _ _ _ _ _ _ us hl => match us, hl with | [_, _, _], _ => rfl) fun f cdv A outer s H E hr =>
    (dz_cons (ds_O (dx_setLc (i := 3) (own := [("place", 4)]) rfl sc_spread_row.nd rfl rfl (sw_true rfl rfl rfl (by decide +kernel)) (di_range1 (by rfl) (T.free 86) (de_var 2)) (blkOk_by (N := n_spread_row) (sc := defScope s_spread_row) (by decide +kernel)) (fun _ _ _ _ _ => (pg_name (i := 4) sc_spread_row.nd rfl (by first | exact Or.inl rfl | exact Or.inr rfl))) (fun _ _ _ _ _ => dp_nil) (fun _ _ _ _ _ => de_int) (by decide))) (dz_cons (ds_for PassesOwn.never rfl (di_zip (by rfl) (T.free 88) (de_var 1) (de_var 0)) (pg_tup rfl (pgs_cons (pg_name (i := 4) sc_spread_row.nd rfl (by first | exact Or.inl rfl | exact Or.inr rfl)) (pgs_cons (pg_name (i := 5) sc_spread_row.nd rfl (by first | exact Or.inl rfl | exact Or.inr rfl)) pgs_nil))) (dz_one (ds_put (i := 3) (ps_asg (de_var 5) (pg_sub (pv 3) (de_var 4) set_list))))) (dz_one (ds_ret (dr_e (de_tuple (by rfl) (T.free 81) (dw_own 3)))))))
end Mf
set_option Elab.async false
set_option linter.all false
set_option maxRecDepth 100000
set_option maxHeartbeats 4000000
namespace Mf
open PySem PySem.Spec PyProof.Rows L2 Ly
def n_words_on : List PySem.Str := ["book", "sums", "lot"]
theorem sc_words_on : FnScope n_words_on ["book", "sums", "lot"] (defScope s_words_on) := ⟨rfl, rfl, rfl, by decide +kernel, rfl, by decide +kernel, by decide +kernel⟩
def b_words_on : MS := (mRet (mCall m_null_by (mCons (mIx (mVar 0) (mC (.int 0))) (mCons (mCall m_cut_rows (mCons (mVar 1) (mCons (mVar 2) mNil))) (mCons (mLen (mVar 2)) mNil)))))
def m_words_on : List PyData → Option PyData := mFn 3 3 b_words_on
theorem ok_words_on {P : Program} {w : World} {K : PySem.W.Frag} {mg : PySem.Str → Option Value} {base : Heap} (T : Tx K mg) : Fn P w K mg base 5 "words_on" ["book", "sums", "lot"] [] m_words_on :=
  T.mk_ 48 d_words_on sc_words_on (fun _ _ _ _ _ _ us hl => match us, hl with | [_, _, _], _ => rfl) fun f cdv A outer s H E hr =>
    (dz_one (ds_ret (dr_e (de_call (ok_null_by T) hr (by decide) (by rfl) (da_cons (de_ix (de_w (de_var 0)) de_int) (da_cons (de_call (ok_cut_rows T) hr (by decide) (by rfl) (da_cons (de_var 1) (da_cons (de_var 2) da_nil))) (da_cons (de_len (by rfl) (T.free 82) (de_w (de_var 2))) da_nil)))))))
def n__law_inverse : List PySem.Str := ["_law_prime", "_law_number", "_law_one"]
theorem sc__law_inverse : FnScope n__law_inverse ["_law_prime", "_law_number"] (defScope s__law_inverse) := ⟨rfl, rfl, rfl, by decide +kernel, rfl, by decide +kernel, by decide +kernel⟩
def b__law_inverse : MS := (mSeq2 (mFor (mRg2 (mC (.int 1)) (mVar 0)) (.nm 2) (mIfS (mCmpB pEq (mBin gMod (mBin gMul (mVar 2) (mVar 1)) (mVar 0)) (mC (.int 1))) (mRet (mVar 2)) mSkip)) (mRet (mC (.int 0))))
def m__law_inverse : List PyData → Option PyData := mFn 2 3 b__law_inverse
theorem ok__law_inverse {P : Program} {w : World} {K : PySem.W.Frag} {mg : PySem.Str → Option Value} {base : Heap} (T : Tx K mg) : Fn P w K mg base 1 "_law_inverse" ["_law_prime", "_law_number"] [] m__law_inverse :=
  T.mk_ 55 d__law_inverse sc__law_inverse (fun _ _ _ _ _ _ us hl => match us, hl with | [_, _], _ => rfl) fun f cdv A outer s H E hr =>
    (dz_cons (ds_for PassesOwn.never rfl (di_range2 (by rfl) (T.free 86) de_int (de_var 0)) (pg_name (i := 2) sc__law_inverse.nd rfl (by first | exact Or.inl rfl | exact Or.inr rfl)) (dz_one (ds_if (dt_eq (de_mod (de_mul (de_var 2) (de_var 1)) (de_var 0)) de_int) (dz_one (ds_ret (dr_e (de_var 2)))) dz_nil))) (dz_one (ds_ret (dr_e de_int))))
def n__law_less : List PySem.Str := ["_law_prime", "_law_row", "_law_top", "_law_spot", "_law_one", "_law_other"]
theorem sc__law_less : FnScope n__law_less ["_law_prime", "_law_row", "_law_top", "_law_spot"] (defScope s__law_less) := ⟨rfl, rfl, rfl, by decide +kernel, rfl, by decide +kernel, by decide +kernel⟩
def b__law_less : MS := (mRet (mTupOf (lM (mLc (mZip (mVar 1) (mVar 2)) (.pr 4 5) mYes (mBin gMod (mInt (mBin gSub (mVar 4) (mBin gMul (mIx (mVar 1) (mVar 3)) (mVar 5)))) (mVar 0)) [4, 5]))))
def m__law_less : List PyData → Option PyData := mFn 4 6 b__law_less
theorem ok__law_less {P : Program} {w : World} {K : PySem.W.Frag} {mg : PySem.Str → Option Value} {base : Heap} (T : Tx K mg) : Fn P w K mg base 1 "_law_less" ["_law_prime", "_law_row", "_law_top", "_law_spot"] [] m__law_less :=
  T.mk_ 57 d__law_less sc__law_less (fun _ _ _ _ _ _ us hl => match us, hl with | [_, _, _, _], _ => rfl) fun f cdv A outer s H E hr =>
    (dz_one (ds_ret (dr_e (de_tuple (by rfl) (T.free 81) (de_w (dn_w (dn_lc (own := [("_law_one", 4), ("_law_other", 5)]) rfl sc__law_less.nd (di_zip (by rfl) (T.free 88) (de_var 1) (de_var 2)) (blkOk_by (N := n__law_less) (sc := defScope s__law_less) (by decide +kernel)) (fun _ _ _ _ _ => (pg_tup rfl (pgs_cons (pg_name (i := 4) sc__law_less.nd rfl (by first | exact Or.inl rfl | exact Or.inr rfl)) (pgs_cons (pg_name (i := 5) sc__law_less.nd rfl (by first | exact Or.inl rfl | exact Or.inr rfl)) pgs_nil)))) (fun _ _ _ _ _ => dp_nil) (fun _ _ _ _ _ => (de_mod (de_toint (by rfl) (T.free 79) (de_sub (de_var 4) (de_mul (de_ix (de_w (de_var 1)) (de_var 3)) (de_var 5)))) (de_var 0))) (by decide))))))))
def n__law_lots : List PySem.Str := ["_law_many", "_law_size", "_law_found", "_law_k", "_law_lot"]
theorem sc__law_lots : FnScope n__law_lots ["_law_many", "_law_size"] (defScope s__law_lots) := ⟨rfl, rfl, rfl, by decide +kernel, rfl, by decide +kernel, by decide +kernel⟩
def b__law_lots : MS := (mSeq2 (mSet 2 (lM (mLst (mCons (mTup mNil) mNil)))) (mSeq2 (mFor (mRg1 (mVar 0)) (.nm 3) (mSet 2 (lM (mCatL (mVar 2) (lM (mLc (mSeq (mVar 2)) (.nm 4) (mCmpB pLt (mLen (mVar 4)) (mVar 1)) (mCatT (mVar 4) (mTup (mCons (mVar 3) mNil))) [4])))))) (mRet (lM (mLc (mSeq (mVar 2)) (.nm 4) (mCmpB pEq (mLen (mVar 4)) (mVar 1)) (mVar 4) [4])))))
def m__law_lots : List PyData → Option PyData := mFn 2 5 b__law_lots
theorem ok__law_lots {P : Program} {w : World} {K : PySem.W.Frag} {mg : PySem.Str → Option Value} {base : Heap} (T : Tx K mg) : Fn P w K mg base 1 "_law_lots" ["_law_many", "_law_size"] [] m__law_lots :=
  T.mk_ 61 d__law_lots sc__law_lots (fun _ _ _ _ _ _ us hl => match us, hl with | [_, _], _ => rfl) fun f cdv A outer s H E hr =>
    (dz_cons (ds_set (i := 2) sc__law_lots.nd rfl (by first | exact Or.inl rfl | exact Or.inr rfl) (dn_w (dn_lst (da_cons (de_tup da_nil) da_nil)))) (dz_cons (ds_for PassesOwn.never rfl (di_range1 (by rfl) (T.free 86) (de_var 0)) (pg_name (i := 3) sc__law_lots.nd rfl (by first | exact Or.inl rfl | exact Or.inr rfl)) (dz_one (ds_set (i := 2) sc__law_lots.nd rfl (by first | exact Or.inl rfl | exact Or.inr rfl) (dn_w (dn_cat (de_var 2) (dn_w (dn_lc (own := [("_law_lot", 4)]) rfl sc__law_lots.nd (di_seq (de_var 2)) (blkOk_by (N := n__law_lots) (sc := defScope s__law_lots) (by decide +kernel)) (fun _ _ _ _ _ => (pg_name (i := 4) sc__law_lots.nd rfl (by first | exact Or.inl rfl | exact Or.inr rfl))) (fun _ _ _ _ _ => (dp_one (dt_lt (de_len (by rfl) (T.free 82) (de_w (de_var 4))) (de_var 1)))) (fun _ _ _ _ _ => (de_catT (de_var 4) (de_tup (da_cons (de_var 3) da_nil)))) (by decide)))))))) (dz_one (ds_ret (dr_n (dn_lc (own := [("_law_lot", 4)]) rfl sc__law_lots.nd (di_seq (de_var 2)) (blkOk_by (N := n__law_lots) (sc := defScope s__law_lots) (by decide +kernel)) (fun _ _ _ _ _ => (pg_name (i := 4) sc__law_lots.nd rfl (by first | exact Or.inl rfl | exact Or.inr rfl))) (fun _ _ _ _ _ => (dp_one (dt_eq (de_len (by rfl) (T.free 82) (de_w (de_var 4))) (de_var 1)))) (fun _ _ _ _ _ => (de_var 4)) (by decide)))))))
def n__law_off : List PySem.Str := ["_law_book", "_law_lot", "_law_k"]
theorem sc__law_off : FnScope n__law_off ["_law_book", "_law_lot"] (defScope s__law_off) := ⟨rfl, rfl, rfl, by decide +kernel, rfl, by decide +kernel, by decide +kernel⟩
def b__law_off : MS := (mRet (mTupOf (lM (mLc (mRg1 (mIx (mVar 0) (mC (.int 1)))) (.nm 2) (mInB true (mVar 2) (mVar 1)) (mVar 2) [2]))))
def m__law_off : List PyData → Option PyData := mFn 2 3 b__law_off
theorem ok__law_off {P : Program} {w : World} {K : PySem.W.Frag} {mg : PySem.Str → Option Value} {base : Heap} (T : Tx K mg) : Fn P w K mg base 1 "_law_off" ["_law_book", "_law_lot"] [] m__law_off :=
  T.mk_ 62 d__law_off sc__law_off (fun _ _ _ _ _ _ us hl => match us, hl with | [_, _], _ => rfl) fun f cdv A outer s H E hr =>
    (dz_one (ds_ret (dr_e (de_tuple (by rfl) (T.free 81) (de_w (dn_w (dn_lc (own := [("_law_k", 2)]) rfl sc__law_off.nd (di_range1 (by rfl) (T.free 86) (de_ix (de_w (de_var 0)) de_int)) (blkOk_by (N := n__law_off) (sc := defScope s__law_off) (by decide +kernel)) (fun _ _ _ _ _ => (pg_name (i := 2) sc__law_off.nd rfl (by first | exact Or.inl rfl | exact Or.inr rfl))) (fun _ _ _ _ _ => (dp_one (dt_notin (de_var 2) (de_var 1)))) (fun _ _ _ _ _ => (de_var 2)) (by decide))))))))
def n__law_power_at : List PySem.Str := ["_law_prime", "_law_number", "_law_exponent", "_law_found", "_law_lap"]
theorem sc__law_power_at : FnScope n__law_power_at ["_law_prime", "_law_number", "_law_exponent"] (defScope s__law_power_at) := ⟨rfl, rfl, rfl, by decide +kernel, rfl, by decide +kernel, by decide +kernel⟩
def b__law_power_at : MS := (mSeq2 (mSet 3 (mC (.int 1))) (mSeq2 (mFor (mRg1 (mVar 2)) (.nm 4) (mSet 3 (mBin gMod (mInt (mBin gMul (mVar 3) (mVar 1))) (mVar 0)))) (mRet (mVar 3))))
def m__law_power_at : List PyData → Option PyData := mFn 3 5 b__law_power_at
theorem ok__law_power_at {P : Program} {w : World} {K : PySem.W.Frag} {mg : PySem.Str → Option Value} {base : Heap} (T : Tx K mg) : Fn P w K mg base 1 "_law_power_at" ["_law_prime", "_law_number", "_law_exponent"] [] m__law_power_at :=
  T.mk_ 66 d__law_power_at sc__law_power_at (fun _ _ _ _ _ _ us hl => match us, hl with | [_, _, _], _ => rfl) fun f cdv A outer s H E hr =>
    (dz_cons (ds_set (i := 3) sc__law_power_at.nd rfl (by first | exact Or.inl rfl | exact Or.inr rfl) de_int) (dz_cons (ds_for PassesOwn.never rfl (di_range1 (by rfl) (T.free 86) (de_var 2)) (pg_name (i := 4) sc__law_power_at.nd rfl (by first | exact Or.inl rfl | exact Or.inr rfl)) (dz_one (ds_set (i := 3) sc__law_power_at.nd rfl (by first | exact Or.inl rfl | exact Or.inr rfl) (de_mod (de_toint (by rfl) (T.free 79) (de_mul (de_var 3) (de_var 1))) (de_var 0))))) (dz_one (ds_ret (dr_e (de_var 3))))))
def n__law_primitive : List PySem.Str := ["_law_prime", "_law_number", "_law_powers", "_law_e"]
theorem sc__law_primitive : FnScope n__law_primitive ["_law_prime"] (defScope s__law_primitive) := ⟨rfl, rfl, rfl, by decide +kernel, rfl, by decide +kernel, by decide +kernel⟩
def b__law_primitive : MS := (mSeq2 (mFor (mRg2 (mC (.int 1)) (mVar 0)) (.nm 1) (mSeq2 (mSet 2 (lM (mSortSet (lM (mLc (mRg1 (mBin gSub (mVar 0) (mC (.int 1)))) (.nm 3) mYes (mCall m__law_power_at (mCons (mVar 0) (mCons (mVar 1) (mCons (mVar 3) mNil)))) [3]))))) (mIfS (mCmpB pEq (mLen (mVar 2)) (mBin gSub (mVar 0) (mC (.int 1)))) (mRet (mVar 1)) mSkip))) (mRet (mC (.int 1))))
def m__law_primitive : List PyData → Option PyData := mFn 1 4 b__law_primitive
theorem ok__law_primitive {P : Program} {w : World} {K : PySem.W.Frag} {mg : PySem.Str → Option Value} {base : Heap} (T : Tx K mg) : Fn P w K mg base 2 "_law_primitive" ["_law_prime"] [] m__law_primitive :=
  T.mk_ 67 d__law_primitive sc__law_primitive (fun _ _ _ _ _ _ us hl => match us, hl with | [_], _ => rfl) fun f cdv A outer s H E hr =>
    (dz_cons (ds_for PassesOwn.never rfl (di_range2 (by rfl) (T.free 86) de_int (de_var 0)) (pg_name (i := 1) sc__law_primitive.nd rfl (by first | exact Or.inl rfl | exact Or.inr rfl)) (dz_cons (ds_set (i := 2) sc__law_primitive.nd rfl (by first | exact Or.inl rfl | exact Or.inr rfl) (dn_w (dn_sortSet rfl (by rfl) (T.free 89) (by rfl) (T.free 90) (de_w (dn_w (dn_lc (own := [("_law_e", 3)]) rfl sc__law_primitive.nd (di_range1 (by rfl) (T.free 86) (de_sub (de_var 0) de_int)) (blkOk_by (N := n__law_primitive) (sc := defScope s__law_primitive) (by decide +kernel)) (fun _ _ _ _ _ => (pg_name (i := 3) sc__law_primitive.nd rfl (by first | exact Or.inl rfl | exact Or.inr rfl))) (fun _ _ _ _ _ => dp_nil) (fun _ _ _ _ _ => (de_call (ok__law_power_at T) hr (by decide) (by rfl) (da_cons (de_var 0) (da_cons (de_var 1) (da_cons (de_var 3) da_nil))))) (by decide))))))) (dz_one (ds_if (dt_eq (de_len (by rfl) (T.free 82) (de_w (de_var 2))) (de_sub (de_var 0) de_int)) (dz_one (ds_ret (dr_e (de_var 1)))) dz_nil)))) (dz_one (ds_ret (dr_e de_int))))
def n__law_class_numbers : List PySem.Str := ["_law_prime", "_law_size", "_law_many", "_law_g", "_law_h", "_law_found", "_law_j", "_law_i"]
theorem sc__law_class_numbers : FnScope n__law_class_numbers ["_law_prime", "_law_size", "_law_many"] (defScope s__law_class_numbers) := ⟨rfl, rfl, rfl, by decide +kernel, rfl, by decide +kernel, by decide +kernel⟩
def b__law_class_numbers : MS := (mSeq2 (mSet 3 (mCall m__law_primitive (mCons (mVar 0) mNil))) (mSeq2 (mPar 4 5 (sV (mCall m__law_power_at (mCons (mVar 0) (mCons (mVar 3) (mCons (mBin gDiv (mBin gSub (mVar 0) (mC (.int 1))) (mVar 1)) mNil))))) (sO (mLst mNil))) (mSeq2 (mFor (mRg1 (mVar 2)) (.nm 6) (mExt 5 (mLc (mRg1 (mVar 1)) (.nm 7) mYes (mBin gMod (mInt (mBin gMul (mCall m__law_power_at (mCons (mVar 0) (mCons (mVar 3) (mCons (mVar 6) mNil)))) (mCall m__law_power_at (mCons (mVar 0) (mCons (mVar 4) (mCons (mVar 7) mNil)))))) (mVar 0)) [7]))) (mRet (mOwn 5)))))
def m__law_class_numbers : List PyData → Option PyData := mFn 3 8 b__law_class_numbers
theorem ok__law_class_numbers {P : Program} {w : World} {K : PySem.W.Frag} {mg : PySem.Str → Option Value} {base : Heap} (T : Tx K mg) : Fn P w K mg base 3 "_law_class_numbers" ["_law_prime", "_law_size", "_law_many"] [] m__law_class_numbers :=
  T.mk_ 68 d__law_class_numbers sc__law_class_numbers (fun _ _ _ _ _ _ us hl => match us, hl with | [_, _, _], _ => rfl) fun f cdv A outer s H E hr =>
    (dz_cons (ds_set (i := 3) sc__law_class_numbers.nd rfl (by first | exact Or.inl rfl | exact Or.inr rfl) (de_call (ok__law_primitive T) hr (by decide) (by rfl) (da_cons (de_var 0) da_nil))) (dz_cons (ds_vo fT_ok (ps_prT rfl (pg_name (i := 4) sc__law_class_numbers.nd rfl (by first | exact Or.inl rfl | exact Or.inr rfl)) (pg_name (i := 5) sc__law_class_numbers.nd rfl (by first | exact Or.inl rfl | exact Or.inr rfl)) (de_call (ok__law_power_at T) hr (by decide) (by rfl) (da_cons (de_var 0) (da_cons (de_var 3) (da_cons (de_div (de_sub (de_var 0) de_int) (de_var 1)) da_nil)))) (dn_lst da_nil))) (dz_cons (ds_for PassesOwn.never rfl (di_range1 (by rfl) (T.free 86) (de_var 2)) (pg_name (i := 6) sc__law_class_numbers.nd rfl (by first | exact Or.inl rfl | exact Or.inr rfl)) (dz_one (ds_ext (i := 5) (ps_expr (pe_bm PySem.F.plainAttrs_list PySem.F.slot_list_extend PySem.F.type_list_extend mt_extend (pv 5) (pa_cons (dn_lc (own := [("_law_i", 7)]) rfl sc__law_class_numbers.nd (di_range1 (by rfl) (T.free 86) (de_var 1)) (blkOk_by (N := n__law_class_numbers) (sc := defScope s__law_class_numbers) (by decide +kernel)) (fun _ _ _ _ _ => (pg_name (i := 7) sc__law_class_numbers.nd rfl (by first | exact Or.inl rfl | exact Or.inr rfl))) (fun _ _ _ _ _ => dp_nil) (fun _ _ _ _ _ => (de_mod (de_toint (by rfl) (T.free 79) (de_mul (de_call (ok__law_power_at T) hr (by decide) (by rfl) (da_cons (de_var 0) (da_cons (de_var 3) (da_cons (de_var 6) da_nil)))) (de_call (ok__law_power_at T) hr (by decide) (by rfl) (da_cons (de_var 0) (da_cons (de_var 4) (da_cons (de_var 7) da_nil)))))) (de_var 0))) (by decide)) pa_nil)))))) (dz_one (ds_ret (dr_own 5))))))
def n__law_worths : List PySem.Str := ["_law_prime", "_law_numbers", "_law_exponents", "_law_e", "_law_number"]
theorem sc__law_worths : FnScope n__law_worths ["_law_prime", "_law_numbers", "_law_exponents"] (defScope s__law_worths) := ⟨rfl, rfl, rfl, by decide +kernel, rfl, by decide +kernel, by decide +kernel⟩
def b__law_worths : MS := (mRet (lM (mLc (mSeq (mVar 2)) (.nm 3) mYes (mTupOf (lM (mLc (mSeq (mVar 1)) (.nm 4) mYes (mCall m__law_power_at (mCons (mVar 0) (mCons (mVar 4) (mCons (mVar 3) mNil)))) [4]))) [3])))
def m__law_worths : List PyData → Option PyData := mFn 3 5 b__law_worths
theorem ok__law_worths {P : Program} {w : World} {K : PySem.W.Frag} {mg : PySem.Str → Option Value} {base : Heap} (T : Tx K mg) : Fn P w K mg base 2 "_law_worths" ["_law_prime", "_law_numbers", "_law_exponents"] [] m__law_worths :=
  T.mk_ 69 d__law_worths sc__law_worths (fun _ _ _ _ _ _ us hl => match us, hl with | [_, _, _], _ => rfl) fun f cdv A outer s H E hr =>
    (dz_one (ds_ret (dr_n (dn_lc (own := [("_law_e", 3)]) rfl sc__law_worths.nd (di_seq (de_var 2)) (blkOk_by (N := n__law_worths) (sc := defScope s__law_worths) (by decide +kernel)) (fun _ _ _ _ _ => (pg_name (i := 3) sc__law_worths.nd rfl (by first | exact Or.inl rfl | exact Or.inr rfl))) (fun _ _ _ _ _ => dp_nil) (fun _ _ _ _ _ => (de_tuple (by rfl) (T.free 81) (de_w (dn_w (dn_lc (own := [("_law_number", 4)]) rfl sc__law_worths.nd (di_seq (de_var 1)) (blkOk_by (N := n__law_worths) (sc := relS _ (defScope s__law_worths)) (by decide +kernel)) (fun _ _ _ _ _ => (pg_name (i := 4) sc__law_worths.nd rfl (by first | exact Or.inl rfl | exact Or.inr rfl))) (fun _ _ _ _ _ => dp_nil) (fun _ _ _ _ _ => (de_call (ok__law_power_at T) hr (by decide) (by rfl) (da_cons (de_var 0) (da_cons (de_var 4) (da_cons (de_var 3) da_nil))))) (by decide)))))) (by decide)))))
def n__law_reduced : List PySem.Str := ["_law_prime", "_law_rows", "_law_found", "_law_rest", "_law_many", "_law_spot", "_law_first", "_law_top", "_law_times", "_law_row", "_law_number"]
theorem sc__law_reduced : FnScope n__law_reduced ["_law_prime", "_law_rows"] (defScope s__law_reduced) := ⟨rfl, rfl, rfl, by decide +kernel, rfl, by decide +kernel, by decide +kernel⟩
def b__law_reduced : MS := (mSeq2 (mPar 2 3 (sV (lM (mLst mNil))) (sV (lM (mLc (mSeq (mVar 1)) (.nm 9) mYes (mTupOf (lM (mLc (mSeq (mVar 9)) (.nm 10) mYes (mBin gMod (mInt (mVar 10)) (mVar 0)) [10]))) [9])))) (mSeq2 (mSet 4 (mIf (mEqB true (mVar 1) (lM (mLst mNil))) (mLen (mIx (mVar 1) (mC (.int 0)))) (mC (.int 0)))) (mSeq2 (mFor (mRg1 (mVar 4)) (.nm 5) (mSeq2 (mSet 6 (lM (mLc (mSeq (mVar 3)) (.nm 9) (mCmpB pNe (mIx (mVar 9) (mVar 5)) (mC (.int 0))) (mVar 9) [9]))) (mIfS (mEqB true (mVar 6) (lM (mLst mNil))) (mSeq2 (mSet 7 (mIx (mVar 6) (mC (.int 0)))) (mSeq2 (mSet 8 (mCall m__law_inverse (mCons (mVar 0) (mCons (mIx (mVar 7) (mVar 5)) mNil)))) (mSeq2 (mSet 7 (mTupOf (lM (mLc (mSeq (mVar 7)) (.nm 10) mYes (mBin gMod (mBin gMul (mVar 10) (mVar 8)) (mVar 0)) [10])))) (mSeq2 (mSet 3 (lM (mLc (mSeq (mVar 3)) (.nm 9) mYes (mCall m__law_less (mCons (mVar 0) (mCons (mVar 9) (mCons (mVar 7) (mCons (mVar 5) mNil))))) [9]))) (mSeq2 (mSet 2 (lM (mCatL (lM (mLc (mSeq (mVar 2)) (.nm 9) mYes (mCall m__law_less (mCons (mVar 0) (mCons (mVar 9) (mCons (mVar 7) (mCons (mVar 5) mNil))))) [9])) (lM (mLst (mCons (mVar 7) mNil)))))) (mSet 3 (lM (mLc (mSeq (mVar 3)) (.nm 9) (mEqB true (mVar 9) (mRep (mTup (mCons (mC (.int 0)) mNil)) (mVar 4))) (mVar 9) [9])))))))) mSkip))) (mRet (mVar 2)))))
def m__law_reduced : List PyData → Option PyData := mFn 2 11 b__law_reduced
theorem ok__law_reduced {P : Program} {w : World} {K : PySem.W.Frag} {mg : PySem.Str → Option Value} {base : Heap} (T : Tx K mg) : Fn P w K mg base 2 "_law_reduced" ["_law_prime", "_law_rows"] [] m__law_reduced :=
  T.mk_ 56 d__law_reduced sc__law_reduced (fun _ _ _ _ _ _ us hl => match us, hl with | [_, _], _ => rfl) fun f cdv A outer s H E hr =>
    (dz_cons (ds_vv fL_ok (ps_prL rfl sc__law_reduced.nd (i := 2) (j := 3) rfl rfl (by decide) rfl rfl (dn_w (dn_lst da_nil)) (dn_w (dn_lc (own := [("_law_row", 9)]) rfl sc__law_reduced.nd (di_seq (de_var 1)) (blkOk_by (N := n__law_reduced) (sc := defScope s__law_reduced) (by decide +kernel)) (fun _ _ _ _ _ => (pg_name (i := 9) sc__law_reduced.nd rfl (by first | exact Or.inl rfl | exact Or.inr rfl))) (fun _ _ _ _ _ => dp_nil) (fun _ _ _ _ _ => (de_tuple (by rfl) (T.free 81) (de_w (dn_w (dn_lc (own := [("_law_number", 10)]) rfl sc__law_reduced.nd (di_seq (de_var 9)) (blkOk_by (N := n__law_reduced) (sc := relS _ (defScope s__law_reduced)) (by decide +kernel)) (fun _ _ _ _ _ => (pg_name (i := 10) sc__law_reduced.nd rfl (by first | exact Or.inl rfl | exact Or.inr rfl))) (fun _ _ _ _ _ => dp_nil) (fun _ _ _ _ _ => (de_mod (de_toint (by rfl) (T.free 79) (de_var 10)) (de_var 0))) (by decide)))))) (by decide))))) (dz_cons (ds_set (i := 4) sc__law_reduced.nd rfl (by first | exact Or.inl rfl | exact Or.inr rfl) (de_if (dt_neD hr.units (de_w (de_var 1)) (de_w (dn_w (dn_lst da_nil)))) (de_len (by rfl) (T.free 82) (de_w (de_ix (de_w (de_var 1)) de_int))) de_int)) (dz_cons (ds_for PassesOwn.never rfl (di_range1 (by rfl) (T.free 86) (de_var 4)) (pg_name (i := 5) sc__law_reduced.nd rfl (by first | exact Or.inl rfl | exact Or.inr rfl)) (dz_cons (ds_V (dx_setLc (i := 6) (own := [("_law_row", 9)]) rfl sc__law_reduced.nd rfl rfl (sw_true rfl rfl rfl (by decide +kernel)) (di_seq (de_var 3)) (blkOk_by (N := n__law_reduced) (sc := defScope s__law_reduced) (by decide +kernel)) (fun _ _ _ _ _ => (pg_name (i := 9) sc__law_reduced.nd rfl (by first | exact Or.inl rfl | exact Or.inr rfl))) (fun _ _ _ _ _ => (dp_one (dt_ne (de_ix (de_w (de_var 9)) (de_var 5)) de_int))) (fun _ _ _ _ _ => (de_var 9)) (by decide))) (dz_one (ds_if (dt_neD hr.units (de_w (de_var 6)) (de_w (dn_w (dn_lst da_nil)))) (dz_cons (ds_set (i := 7) sc__law_reduced.nd rfl (by first | exact Or.inl rfl | exact Or.inr rfl) (de_ix (de_w (de_var 6)) de_int)) (dz_cons (ds_set (i := 8) sc__law_reduced.nd rfl (by first | exact Or.inl rfl | exact Or.inr rfl) (de_call (ok__law_inverse T) hr (by decide) (by rfl) (da_cons (de_var 0) (da_cons (de_ix (de_w (de_var 7)) (de_var 5)) da_nil)))) (dz_cons (ds_set (i := 7) sc__law_reduced.nd rfl (by first | exact Or.inl rfl | exact Or.inr rfl) (de_tuple (by rfl) (T.free 81) (de_w (dn_w (dn_lc (own := [("_law_number", 10)]) rfl sc__law_reduced.nd (di_seq (de_var 7)) (blkOk_by (N := n__law_reduced) (sc := defScope s__law_reduced) (by decide +kernel)) (fun _ _ _ _ _ => (pg_name (i := 10) sc__law_reduced.nd rfl (by first | exact Or.inl rfl | exact Or.inr rfl))) (fun _ _ _ _ _ => dp_nil) (fun _ _ _ _ _ => (de_mod (de_mul (de_var 10) (de_var 8)) (de_var 0))) (by decide)))))) (dz_cons (ds_V (dx_setLc (i := 3) (own := [("_law_row", 9)]) rfl sc__law_reduced.nd rfl rfl (sw_true rfl rfl rfl (by decide +kernel)) (di_seq (de_var 3)) (blkOk_by (N := n__law_reduced) (sc := defScope s__law_reduced) (by decide +kernel)) (fun _ _ _ _ _ => (pg_name (i := 9) sc__law_reduced.nd rfl (by first | exact Or.inl rfl | exact Or.inr rfl))) (fun _ _ _ _ _ => dp_nil) (fun _ _ _ _ _ => (de_call (ok__law_less T) hr (by decide) (by rfl) (da_cons (de_var 0) (da_cons (de_var 9) (da_cons (de_var 7) (da_cons (de_var 5) da_nil)))))) (by decide))) (dz_cons (ds_set (i := 2) sc__law_reduced.nd rfl (by first | exact Or.inl rfl | exact Or.inr rfl) (dn_w (dn_cat (dn_w (dn_lc (own := [("_law_row", 9)]) rfl sc__law_reduced.nd (di_seq (de_var 2)) (blkOk_by (N := n__law_reduced) (sc := defScope s__law_reduced) (by decide +kernel)) (fun _ _ _ _ _ => (pg_name (i := 9) sc__law_reduced.nd rfl (by first | exact Or.inl rfl | exact Or.inr rfl))) (fun _ _ _ _ _ => dp_nil) (fun _ _ _ _ _ => (de_call (ok__law_less T) hr (by decide) (by rfl) (da_cons (de_var 0) (da_cons (de_var 9) (da_cons (de_var 7) (da_cons (de_var 5) da_nil)))))) (by decide))) (dn_w (dn_lst (da_cons (de_var 7) da_nil)))))) (dz_one (ds_V (dx_setLc (i := 3) (own := [("_law_row", 9)]) rfl sc__law_reduced.nd rfl rfl (sw_true rfl rfl rfl (by decide +kernel)) (di_seq (de_var 3)) (blkOk_by (N := n__law_reduced) (sc := defScope s__law_reduced) (by decide +kernel)) (fun _ _ _ _ _ => (pg_name (i := 9) sc__law_reduced.nd rfl (by first | exact Or.inl rfl | exact Or.inr rfl))) (fun _ _ _ _ _ => (dp_one (dt_neD hr.units (de_w (de_var 9)) (de_w (de_rep (de_tup (da_cons de_int da_nil)) (de_var 4)))))) (fun _ _ _ _ _ => (de_var 9)) (by decide))))))))) dz_nil)))) (dz_one (ds_ret (dr_e (de_var 2)))))))
def n__law_null : List PySem.Str := ["_law_prime", "_law_rows", "_law_many", "_law_found", "_law_lines", "_law_firsts", "_law_free", "_law_signs", "_law_row", "_law_first", "_law_k"]
theorem sc__law_null : FnScope n__law_null ["_law_prime", "_law_rows", "_law_many"] (defScope s__law_null) := ⟨rfl, rfl, rfl, by decide +kernel, rfl, by decide +kernel, by decide +kernel⟩
def b__law_null : MS := (mSeq2 (mSetO 3 (mLst mNil)) (mSeq2 (mSet 4 (mCall m__law_reduced (mCons (mVar 0) (mCons (mVar 1) mNil)))) (mSeq2 (mSet 5 (lM (mLc (mSeq (mVar 4)) (.nm 8) mYes (mIx (lM (mLc (mRg1 (mVar 2)) (.nm 10) (mCmpB pNe (mIx (mVar 8) (mVar 10)) (mC (.int 0))) (mVar 10) [10])) (mC (.int 0))) [8]))) (mSeq2 (mFor (mRg1 (mVar 2)) (.nm 6) (mIfS (mInB true (mVar 6) (mVar 5)) (mSeq2 (mSetO 7 (mLc (mRg1 (mVar 2)) (.nm 10) mYes (mIf (mCmpB pEq (mVar 10) (mVar 6)) (mC (.int 1)) (mC (.int 0))) [10])) (mSeq2 (mFor (mZip (mVar 4) (mVar 5)) (.pr 8 9) (mPut 7 (mVar 9) (mBin gMod (mInt (mNeg (mIx (mVar 8) (mVar 6)))) (mVar 0)))) (mApp 3 (mTupOf (mOwn 7))))) mSkip)) (mFrz 3 (mRet (mCall m__law_reduced (mCons (mVar 0) (mCons (mVar 3) mNil)))))))))
def m__law_null : List PyData → Option PyData := mFn 3 11 b__law_null
theorem ok__law_null {P : Program} {w : World} {K : PySem.W.Frag} {mg : PySem.Str → Option Value} {base : Heap} (T : Tx K mg) : Fn P w K mg base 3 "_law_null" ["_law_prime", "_law_rows", "_law_many"] [] m__law_null :=
  T.mk_ 58 d__law_null sc__law_null (fun _ _ _ _ _ _ us hl => match us, hl with | [_, _, _], _ => rfl) fun f cdv A outer s H E hr =>
    (dz_cons (ds_setO (i := 3) sc__law_null.nd rfl (by first | exact Or.inl rfl | exact Or.inr rfl) (dn_lst da_nil)) (dz_cons (ds_set (i := 4) sc__law_null.nd rfl (by first | exact Or.inl rfl | exact Or.inr rfl) (de_call (ok__law_reduced T) hr (by decide) (by rfl) (da_cons (de_var 0) (da_cons (de_var 1) da_nil)))) (dz_cons (ds_V (dx_setLc (i := 5) (own := [("_law_row", 8)]) rfl sc__law_null.nd rfl rfl (sw_true rfl rfl rfl (by decide +kernel)) (di_seq (de_var 4)) (blkOk_by (N := n__law_null) (sc := defScope s__law_null) (by decide +kernel)) (fun _ _ _ _ _ => (pg_name (i := 8) sc__law_null.nd rfl (by first | exact Or.inl rfl | exact Or.inr rfl))) (fun _ _ _ _ _ => dp_nil) (fun _ _ _ _ _ => (de_ix (de_w (dn_w (dn_lc (own := [("_law_k", 10)]) rfl sc__law_null.nd (di_range1 (by rfl) (T.free 86) (de_var 2)) (blkOk_by (N := n__law_null) (sc := relS _ (defScope s__law_null)) (by decide +kernel)) (fun _ _ _ _ _ => (pg_name (i := 10) sc__law_null.nd rfl (by first | exact Or.inl rfl | exact Or.inr rfl))) (fun _ _ _ _ _ => (dp_one (dt_ne (de_ix (de_w (de_var 8)) (de_var 10)) de_int))) (fun _ _ _ _ _ => (de_var 10)) (by decide)))) de_int)) (by decide))) (dz_cons (ds_for PassesOwn.never rfl (di_range1 (by rfl) (T.free 86) (de_var 2)) (pg_name (i := 6) sc__law_null.nd rfl (by first | exact Or.inl rfl | exact Or.inr rfl)) (dz_one (ds_if (dt_notin (de_var 6) (de_var 5)) (dz_cons (ds_O (dx_setLc (i := 7) (own := [("_law_k", 10)]) rfl sc__law_null.nd rfl rfl (sw_true rfl rfl rfl (by decide +kernel)) (di_range1 (by rfl) (T.free 86) (de_var 2)) (blkOk_by (N := n__law_null) (sc := defScope s__law_null) (by decide +kernel)) (fun _ _ _ _ _ => (pg_name (i := 10) sc__law_null.nd rfl (by first | exact Or.inl rfl | exact Or.inr rfl))) (fun _ _ _ _ _ => dp_nil) (fun _ _ _ _ _ => (de_if (dt_eq (de_var 10) (de_var 6)) de_int de_int)) (by decide))) (dz_cons (ds_for PassesOwn.never rfl (di_zip (by rfl) (T.free 88) (de_var 4) (de_var 5)) (pg_tup rfl (pgs_cons (pg_name (i := 8) sc__law_null.nd rfl (by first | exact Or.inl rfl | exact Or.inr rfl)) (pgs_cons (pg_name (i := 9) sc__law_null.nd rfl (by first | exact Or.inl rfl | exact Or.inr rfl)) pgs_nil))) (dz_one (ds_put (i := 7) (ps_asg (de_mod (de_toint (by rfl) (T.free 79) (de_neg (de_ix (de_w (de_var 8)) (de_var 6)))) (de_var 0)) (pg_sub (pv 7) (de_var 9) set_list))))) (dz_one (ds_app (i := 3) (ps_expr (pe_bm PySem.F.plainAttrs_list PySem.F.slot_list_append PySem.F.type_list_append mt_append (pv 3) (pa_cons (de_tuple (by rfl) (T.free 81) (dw_own 7)) pa_nil))))))) dz_nil))) (dz_frz 3 (dz_one (ds_ret (dr_e (de_call (ok__law_reduced T) hr (by decide) (by rfl) (da_cons (de_var 0) (da_cons (de_var 3) da_nil)))))))))))
def n__law_rank : List PySem.Str := ["_law_prime", "_law_rows", "_law_lot", "_law_cut", "_law_row", "_law_k"]
theorem sc__law_rank : FnScope n__law_rank ["_law_prime", "_law_rows", "_law_lot"] (defScope s__law_rank) := ⟨rfl, rfl, rfl, by decide +kernel, rfl, by decide +kernel, by decide +kernel⟩
def b__law_rank : MS := (mSeq2 (mSet 3 (lM (mLc (mSeq (mVar 1)) (.nm 4) mYes (mTupOf (lM (mLc (mSeq (mVar 2)) (.nm 5) mYes (mIx (mVar 4) (mVar 5)) [5]))) [4]))) (mRet (mIf (mEqB true (mVar 2) (mTup mNil)) (mLen (mCall m__law_reduced (mCons (mVar 0) (mCons (mVar 3) mNil)))) (mC (.int 0)))))
def m__law_rank : List PyData → Option PyData := mFn 3 6 b__law_rank
theorem ok__law_rank {P : Program} {w : World} {K : PySem.W.Frag} {mg : PySem.Str → Option Value} {base : Heap} (T : Tx K mg) : Fn P w K mg base 3 "_law_rank" ["_law_prime", "_law_rows", "_law_lot"] [] m__law_rank :=
  T.mk_ 59 d__law_rank sc__law_rank (fun _ _ _ _ _ _ us hl => match us, hl with | [_, _, _], _ => rfl) fun f cdv A outer s H E hr =>
    (dz_cons (ds_V (dx_setLc (i := 3) (own := [("_law_row", 4)]) rfl sc__law_rank.nd rfl rfl (sw_true rfl rfl rfl (by decide +kernel)) (di_seq (de_var 1)) (blkOk_by (N := n__law_rank) (sc := defScope s__law_rank) (by decide +kernel)) (fun _ _ _ _ _ => (pg_name (i := 4) sc__law_rank.nd rfl (by first | exact Or.inl rfl | exact Or.inr rfl))) (fun _ _ _ _ _ => dp_nil) (fun _ _ _ _ _ => (de_tuple (by rfl) (T.free 81) (de_w (dn_w (dn_lc (own := [("_law_k", 5)]) rfl sc__law_rank.nd (di_seq (de_var 2)) (blkOk_by (N := n__law_rank) (sc := relS _ (defScope s__law_rank)) (by decide +kernel)) (fun _ _ _ _ _ => (pg_name (i := 5) sc__law_rank.nd rfl (by first | exact Or.inl rfl | exact Or.inr rfl))) (fun _ _ _ _ _ => dp_nil) (fun _ _ _ _ _ => (de_ix (de_w (de_var 4)) (de_var 5))) (by decide)))))) (by decide))) (dz_one (ds_ret (dr_e (de_if (dt_neD hr.units (de_w (de_var 2)) (de_w (de_tup da_nil))) (de_len (by rfl) (T.free 82) (de_w (de_call (ok__law_reduced T) hr (by decide) (by rfl) (da_cons (de_var 0) (da_cons (de_var 3) da_nil))))) de_int)))))
end Mf
set_option Elab.async false
set_option linter.all false
set_option maxRecDepth 100000
set_option maxHeartbeats 4000000
namespace Mf
open PySem PySem.Spec PyProof.Rows L2 Ly
def n__law_words : List PySem.Str := ["_law_book"]
theorem sc__law_words : FnScope n__law_words ["_law_book"] (defScope s__law_words) := ⟨rfl, rfl, rfl, by decide +kernel, rfl, by decide +kernel, by decide +kernel⟩
def b__law_words : MS := (mRet (mCall m__law_null (mCons (mIx (mVar 0) (mC (.int 0))) (mCons (lM (mLstOf (mIx (mVar 0) (mC (.int 2))))) (mCons (mIx (mVar 0) (mC (.int 1))) mNil)))))
def m__law_words : List PyData → Option PyData := mFn 1 1 b__law_words
theorem ok__law_words {P : Program} {w : World} {K : PySem.W.Frag} {mg : PySem.Str → Option Value} {base : Heap} (T : Tx K mg) : Fn P w K mg base 4 "_law_words" ["_law_book"] [] m__law_words :=
  T.mk_ 60 d__law_words sc__law_words (fun _ _ _ _ _ _ us hl => match us, hl with | [_], _ => rfl) fun f cdv A outer s H E hr =>
    (dz_one (ds_ret (dr_e (de_call (ok__law_null T) hr (by decide) (by rfl) (da_cons (de_ix (de_w (de_var 0)) de_int) (da_cons (dn_w (dn_list (by rfl) (T.free 87) (de_w (de_ix (de_w (de_var 0)) de_int)))) (da_cons (de_ix (de_w (de_var 0)) de_int) da_nil)))))))
def n__law_told_on : List PySem.Str := ["_law_book", "_law_lot"]
theorem sc__law_told_on : FnScope n__law_told_on ["_law_book", "_law_lot"] (defScope s__law_told_on) := ⟨rfl, rfl, rfl, by decide +kernel, rfl, by decide +kernel, by decide +kernel⟩
def b__law_told_on : MS := (mRet (mCall m__law_rank (mCons (mIx (mVar 0) (mC (.int 0))) (mCons (mCall m__law_words (mCons (mVar 0) mNil)) (mCons (mVar 1) mNil)))))
def m__law_told_on : List PyData → Option PyData := mFn 2 2 b__law_told_on
theorem ok__law_told_on {P : Program} {w : World} {K : PySem.W.Frag} {mg : PySem.Str → Option Value} {base : Heap} (T : Tx K mg) : Fn P w K mg base 5 "_law_told_on" ["_law_book", "_law_lot"] [] m__law_told_on :=
  T.mk_ 63 d__law_told_on sc__law_told_on (fun _ _ _ _ _ _ us hl => match us, hl with | [_, _], _ => rfl) fun f cdv A outer s H E hr =>
    (dz_one (ds_ret (dr_e (de_call (ok__law_rank T) hr (by decide) (by rfl) (da_cons (de_ix (de_w (de_var 0)) de_int) (da_cons (de_call (ok__law_words T) hr (by decide) (by rfl) (da_cons (de_var 0) da_nil)) (da_cons (de_var 1) da_nil)))))))
def n__law_has_alone : List PySem.Str := ["_law_book", "_law_lost", "_law_place", "_law_words_here", "_law_off_here", "_law_more"]
theorem sc__law_has_alone : FnScope n__law_has_alone ["_law_book", "_law_lost", "_law_place"] (defScope s__law_has_alone) := ⟨rfl, rfl, rfl, by decide +kernel, rfl, by decide +kernel, by decide +kernel⟩
def b__law_has_alone : MS := (mSeq2 (mSet 3 (mCall m__law_words (mCons (mVar 0) mNil))) (mSeq2 (mSet 4 (mCall m__law_off (mCons (mVar 0) (mCons (mVar 1) mNil)))) (mSeq2 (mSet 5 (mTupOf (lM (mSortSet (mCatT (mVar 4) (mTup (mCons (mVar 2) mNil))))))) (mRet (bE (mCmpB pEq (mCall m__law_rank (mCons (mIx (mVar 0) (mC (.int 0))) (mCons (mVar 3) (mCons (mVar 5) mNil)))) (mCall m__law_rank (mCons (mIx (mVar 0) (mC (.int 0))) (mCons (mVar 3) (mCons (mVar 4) mNil))))))))))
def m__law_has_alone : List PyData → Option PyData := mFn 3 6 b__law_has_alone
theorem ok__law_has_alone {P : Program} {w : World} {K : PySem.W.Frag} {mg : PySem.Str → Option Value} {base : Heap} (T : Tx K mg) : Fn P w K mg base 5 "_law_has_alone" ["_law_book", "_law_lost", "_law_place"] [] m__law_has_alone :=
  T.mk_ 64 d__law_has_alone sc__law_has_alone (fun _ _ _ _ _ _ us hl => match us, hl with | [_, _, _], _ => rfl) fun f cdv A outer s H E hr =>
    (dz_cons (ds_set (i := 3) sc__law_has_alone.nd rfl (by first | exact Or.inl rfl | exact Or.inr rfl) (de_call (ok__law_words T) hr (by decide) (by rfl) (da_cons (de_var 0) da_nil))) (dz_cons (ds_set (i := 4) sc__law_has_alone.nd rfl (by first | exact Or.inl rfl | exact Or.inr rfl) (de_call (ok__law_off T) hr (by decide) (by rfl) (da_cons (de_var 0) (da_cons (de_var 1) da_nil)))) (dz_cons (ds_set (i := 5) sc__law_has_alone.nd rfl (by first | exact Or.inl rfl | exact Or.inr rfl) (de_tuple (by rfl) (T.free 81) (de_w (dn_w (dn_sortSet rfl (by rfl) (T.free 89) (by rfl) (T.free 90) (de_w (de_catT (de_var 4) (de_tup (da_cons (de_var 2) da_nil))))))))) (dz_one (ds_ret (dr_e (de_eq (de_call (ok__law_rank T) hr (by decide) (by rfl) (da_cons (de_ix (de_w (de_var 0)) de_int) (da_cons (de_var 3) (da_cons (de_var 5) da_nil)))) (de_call (ok__law_rank T) hr (by decide) (by rfl) (da_cons (de_ix (de_w (de_var 0)) de_int) (da_cons (de_var 3) (da_cons (de_var 4) da_nil)))))))))))
def n__law_apart : List PySem.Str := ["_law_book", "_law_words_here", "_law_many", "_law_lot"]
theorem sc__law_apart : FnScope n__law_apart ["_law_book"] (defScope s__law_apart) := ⟨rfl, rfl, rfl, by decide +kernel, rfl, by decide +kernel, by decide +kernel⟩
def b__law_apart : MS := (mSeq2 (mSet 1 (mCall m__law_words (mCons (mVar 0) mNil))) (mSeq2 (mFor (mRg2 (mC (.int 1)) (mBin gAdd (mIx (mVar 0) (mC (.int 1))) (mC (.int 1)))) (.nm 2) (mFor (mSeq (mCall m__law_lots (mCons (mIx (mVar 0) (mC (.int 1))) (mCons (mVar 2) mNil)))) (.nm 3) (mIfS (mCmpB pLt (mCall m__law_rank (mCons (mIx (mVar 0) (mC (.int 0))) (mCons (mVar 1) (mCons (mCall m__law_off (mCons (mVar 0) (mCons (mVar 3) mNil))) mNil)))) (mLen (mVar 1))) (mRet (mVar 2)) mSkip))) (mRet (mC .none))))
def m__law_apart : List PyData → Option PyData := mFn 1 4 b__law_apart
theorem ok__law_apart {P : Program} {w : World} {K : PySem.W.Frag} {mg : PySem.Str → Option Value} {base : Heap} (T : Tx K mg) : Fn P w K mg base 5 "_law_apart" ["_law_book"] [] m__law_apart :=
  T.mk_ 65 d__law_apart sc__law_apart (fun _ _ _ _ _ _ us hl => match us, hl with | [_], _ => rfl) fun f cdv A outer s H E hr =>
    (dz_cons (ds_set (i := 1) sc__law_apart.nd rfl (by first | exact Or.inl rfl | exact Or.inr rfl) (de_call (ok__law_words T) hr (by decide) (by rfl) (da_cons (de_var 0) da_nil))) (dz_cons (ds_for PassesOwn.never rfl (di_range2 (by rfl) (T.free 86) de_int (de_add (de_ix (de_w (de_var 0)) de_int) de_int)) (pg_name (i := 2) sc__law_apart.nd rfl (by first | exact Or.inl rfl | exact Or.inr rfl)) (dz_one (ds_for PassesOwn.never rfl (di_seq (de_call (ok__law_lots T) hr (by decide) (by rfl) (da_cons (de_ix (de_w (de_var 0)) de_int) (da_cons (de_var 2) da_nil)))) (pg_name (i := 3) sc__law_apart.nd rfl (by first | exact Or.inl rfl | exact Or.inr rfl)) (dz_one (ds_if (dt_lt (de_call (ok__law_rank T) hr (by decide) (by rfl) (da_cons (de_ix (de_w (de_var 0)) de_int) (da_cons (de_var 1) (da_cons (de_call (ok__law_off T) hr (by decide) (by rfl) (da_cons (de_var 0) (da_cons (de_var 3) da_nil))) da_nil)))) (de_len (by rfl) (T.free 82) (de_w (de_var 1)))) (dz_one (ds_ret (dr_e (de_var 2)))) dz_nil))))) (dz_one (ds_ret (dr_e de_non)))))
def n__law_group_right : List PySem.Str := ["_law_book", "_law_group", "_law_place"]
theorem sc__law_group_right : FnScope n__law_group_right ["_law_book", "_law_group"] (defScope s__law_group_right) := ⟨rfl, rfl, rfl, by decide +kernel, rfl, by decide +kernel, by decide +kernel⟩
def b__law_group_right : MS := (mSeq2 (mFor (mSeq (mVar 1)) (.nm 2) (mIfS (mNotB (bM (mCall m__law_has_alone (mCons (mVar 0) (mCons (mTupOf (lM (mSortSet (mCatT (mCall m__law_off (mCons (mVar 0) (mCons (mVar 1) mNil))) (mTup (mCons (mVar 2) mNil)))))) (mCons (mVar 2) mNil)))))) (mRet (mC (.bool false))) mSkip)) (mRet (mC (.bool true))))
def m__law_group_right : List PyData → Option PyData := mFn 2 3 b__law_group_right
theorem ok__law_group_right {P : Program} {w : World} {K : PySem.W.Frag} {mg : PySem.Str → Option Value} {base : Heap} (T : Tx K mg) : Fn P w K mg base 6 "_law_group_right" ["_law_book", "_law_group"] [] m__law_group_right :=
  T.mk_ 70 d__law_group_right sc__law_group_right (fun _ _ _ _ _ _ us hl => match us, hl with | [_, _], _ => rfl) fun f cdv A outer s H E hr =>
    (dz_cons (ds_for PassesOwn.never rfl (di_seq (de_var 1)) (pg_name (i := 2) sc__law_group_right.nd rfl (by first | exact Or.inl rfl | exact Or.inr rfl)) (dz_one (ds_if (dt_not (dt_val (de_call (ok__law_has_alone T) hr (by decide) (by rfl) (da_cons (de_var 0) (da_cons (de_tuple (by rfl) (T.free 81) (de_w (dn_w (dn_sortSet rfl (by rfl) (T.free 89) (by rfl) (T.free 90) (de_w (de_catT (de_call (ok__law_off T) hr (by decide) (by rfl) (da_cons (de_var 0) (da_cons (de_var 1) da_nil))) (de_tup (da_cons (de_var 2) da_nil)))))))) (da_cons (de_var 2) da_nil)))))) (dz_one (ds_ret (dr_e de_bl))) dz_nil))) (dz_one (ds_ret (dr_e de_bl))))
def n__law_small_right : List PySem.Str := ["_law_book", "_law_small", "_law_few", "_law_spots", "_law_group"]
theorem sc__law_small_right : FnScope n__law_small_right ["_law_book", "_law_small", "_law_few"] (defScope s__law_small_right) := ⟨rfl, rfl, rfl, by decide +kernel, rfl, by decide +kernel, by decide +kernel⟩
def b__law_small_right : MS := (mSeq2 (mIfS (mEqB true (lM (mLc (mSeq (mVar 1)) (.nm 4) (mOrB (mCmpB pNe (mLen (mVar 4)) (mBin gAdd (mVar 2) (mC (.int 1)))) (mNotB (bM (mCall m__law_group_right (mCons (mVar 0) (mCons (mVar 4) mNil)))))) (mVar 4) [4])) (lM (mLst mNil))) (mRet (mC (.bool false))) mSkip) (mSeq2 (mSetO 3 (mLst mNil)) (mSeq2 (mFor (mSeq (mVar 1)) (.nm 4) (mExt 3 (mLstOf (mVar 4)))) (mRet (mAnd (bE (mEqB false (lM (mSortSet (mOwn 3))) (lM (mRg1 (mIx (mVar 0) (mC (.int 1))))))) (bE (mCmpB pEq (mLen (mOwn 3)) (mIx (mVar 0) (mC (.int 1))))))))))
def m__law_small_right : List PyData → Option PyData := mFn 3 5 b__law_small_right
theorem ok__law_small_right {P : Program} {w : World} {K : PySem.W.Frag} {mg : PySem.Str → Option Value} {base : Heap} (T : Tx K mg) : Fn P w K mg base 7 "_law_small_right" ["_law_book", "_law_small", "_law_few"] [] m__law_small_right :=
  T.mk_ 72 d__law_small_right sc__law_small_right (fun _ _ _ _ _ _ us hl => match us, hl with | [_, _, _], _ => rfl) fun f cdv A outer s H E hr =>
    (dz_cons (ds_if (dt_neD hr.units (de_w (dn_w (dn_lc (own := [("_law_group", 4)]) rfl sc__law_small_right.nd (di_seq (de_var 1)) (blkOk_by (N := n__law_small_right) (sc := defScope s__law_small_right) (by decide +kernel)) (fun _ _ _ _ _ => (pg_name (i := 4) sc__law_small_right.nd rfl (by first | exact Or.inl rfl | exact Or.inr rfl))) (fun _ _ _ _ _ => (dp_one (dt_q (dq_or (dt_ne (de_len (by rfl) (T.free 82) (de_w (de_var 4))) (de_add (de_var 2) de_int)) (dq_or1 (dt_not (dt_val (de_call (ok__law_group_right T) hr (by decide) (by rfl) (da_cons (de_var 0) (da_cons (de_var 4) da_nil)))))))))) (fun _ _ _ _ _ => (de_var 4)) (by decide)))) (de_w (dn_w (dn_lst da_nil)))) (dz_one (ds_ret (dr_e de_bl))) dz_nil) (dz_cons (ds_setO (i := 3) sc__law_small_right.nd rfl (by first | exact Or.inl rfl | exact Or.inr rfl) (dn_lst da_nil)) (dz_cons (ds_for PassesOwn.never rfl (di_seq (de_var 1)) (pg_name (i := 4) sc__law_small_right.nd rfl (by first | exact Or.inl rfl | exact Or.inr rfl)) (dz_one (ds_ext (i := 3) (ps_expr (pe_bm PySem.F.plainAttrs_list PySem.F.slot_list_extend PySem.F.type_list_extend mt_extend (pv 3) (pa_cons (dn_list (by rfl) (T.free 87) (de_w (de_var 4))) pa_nil)))))) (dz_one (ds_ret (dr_e (de_and (de_eqD hr.units (de_w (dn_w (dn_sortSet rfl (by rfl) (T.free 89) (by rfl) (T.free 90) (dw_own 3)))) (de_w (dn_w (dn_listRg rfl (by rfl) (T.free 87) (by rfl) (T.free 86) (de_ix (de_w (de_var 0)) de_int))))) (de_one (de_eq (de_len (by rfl) (T.free 82) (dw_own 3)) (de_ix (de_w (de_var 0)) de_int))))))))))
end Mf
set_option Elab.async false
set_option linter.all false
set_option maxRecDepth 100000
set_option maxHeartbeats 4000000
namespace Mf
open PySem PySem.Spec PyProof.Rows L2 Ly
/-! the feed of draws -/
def feedK (c : Addr) (a l n : Int) : List (Key × V) := [(.inr "cells", .ref c), (.inr "at", .int a), (.inr "left", .int l), (.inr "count", .int n)]
structure FeedAt (H : Hp) (f c : Addr) : Prop where
  dk : ∃ a l n, H f = some (.dK (feedK c a l n))
  ls : ∃ ns : List Int, ns.length ≤ 1000 ∧ H c = some (.lst (ns.map V.int))
/-- all but f stands -/
def Keep (f : Addr) (H H' : Hp) : Prop := ∀ b o, b ≠ f → H b = some o → H' b = some o
theorem Keep.refl {f : Addr} {H : Hp} : Keep f H H := fun _ _ _ h => h
theorem Keep.trans {f : Addr} {H H1 H2 : Hp} (a : Keep f H H1) (b : Keep f H1 H2) : Keep f H H2 := fun x o n h => b x o n (a x o n h)
theorem Keep.put {f : Addr} {H : Hp} {o : HO} : Keep f H (upd H f o) := fun b o n h => by rw [upd_ne n]; exact h
theorem Keep.ext {f : Addr} {H H' : Hp} (x : Ext H H') : Keep f H H' := fun b o _ h => x b o h
def spDraw : Sp := fun vs H Q _ => ∃ f c m, vs = [.ref f, .int m] ∧ 0 < m ∧ m < 1073741824 ∧ FeedAt H f c ∧ ∀ r H', 0 ≤ r → r < m → FeedAt H' f c → Keep f H H' → Q (.int r) H'
section
variable {f c : Addr} {kvs : List (Key × V)} {k : PySem.Str} {v : V} {σ : L2.St} {H : Hp} {Q : VK}
theorem gd (h0 : σ[0]? = some (some (.ref f))) (h : H f = some (.dK kvs)) (hv : valV kvs (.inr k) = some v) (q : Q v H) : tDGet (tVar 0) (tC (.str k)) σ H Q :=
  ⟨_, h0, f, v, rfl, (by rw [← hv]; exact DGet.k (k := .inr k) h), q⟩
theorem dp {tv : TE} {D : Ends} (h0 : σ[0]? = some (some (.ref f))) (h : tv σ H fun v H1 => ∃ kvs, H1 f = some (.dK kvs) ∧ kvs.length < 100 ∧ D.nx σ (upd H1 f (.dK (putK kvs (.inr k) v)))) (mono : ∀ {R R' : VK}, (∀ v H, R v H → R' v H) → tv σ H R → tv σ H R') : sDPut (tVar 0) (tC (.str k)) tv D σ H := by
  refine mono (fun v H1 q => ?_) h
  obtain ⟨kvs, e, hl, q⟩ := q
  exact ⟨_, h0, f, _, rfl, DPut.k (k := .inr k) e (Nat.lt_of_lt_of_le hl (by decide)), q⟩
end
def n__law_draw : List PySem.Str := ["_law_feed_here", "_law_many", "_law_figure", "_law_at", "_law_cell", "_law_mixed"]
theorem sc__law_draw : FnScope n__law_draw ["_law_feed_here", "_law_many"] (defScope s__law_draw) := ⟨rfl, rfl, rfl, by decide +kernel, rfl, by decide +kernel, by decide +kernel⟩
theorem val_count {c a l n} : valV (feedK c a l n) (.inr "count") = some (.int n) := by rfl
theorem val_at {c a l n} : valV (feedK c a l n) (.inr "at") = some (.int a) := by rfl
theorem val_left {c a l n} : valV (feedK c a l n) (.inr "left") = some (.int l) := by rfl
theorem val_cells {c a l n} : valV (feedK c a l n) (.inr "cells") = some (.ref c) := by rfl
theorem put_count {c a l n m} : putK (feedK c a l n) (.inr "count") (.int m) = feedK c a l m := by rfl
theorem put_at {c a l n m} : putK (feedK c a l n) (.inr "at") (.int m) = feedK c m l n := by rfl
theorem put_left {c a l n m} : putK (feedK c a l n) (.inr "left") (.int m) = feedK c a m n := by rfl
section
variable {X : Cx}
theorem nosl {k : PySem.Str} {j : Nat} {p : Pos} : NoSl (.Constant (.str k) j p) := fun _ _ => rfl
end
end Mf
set_option Elab.async false
set_option linter.all false
set_option maxRecDepth 100000
set_option maxHeartbeats 4000000
namespace Mf
open PySem PySem.Spec PyProof.Rows L2 Ly
/-- a def with a promise of its own -/
structure FnS (P : Program) (w : World) (K : PySem.W.Frag) (mg : PySem.Str → Option Value) (base : Heap) (k : Nat) (x : PySem.Str) (ps : List PySem.Str) (sp : Sp) : Prop where
  ex : ∃ (ad : Addr) (fd : FuncData), FnOk P w K mg base CX0 k ad fd ps sp ∧ mg x = some (.ref ad) ∧ PySem.W.keepIn K (.ref ad) = true ∧ Binds K fd ps []
section
variable {P : Program} {w : World} {K : PySem.W.Frag} {mg : PySem.Str → Option Value} {base : Heap}
abbrev BodyS (P : Program) (w : World) (K : PySem.W.Frag) (mg : PySem.Str → Option Value) (base : Heap) (k : Nat) (d : He.DefD) (N : List PySem.Str) (sp : Sp) : Prop :=
  ∀ (f : Addr) (cdv : Value) (A : Around) (outer : List Env) (s : Shared) (H : Hp) (E : XK) (vs : List V) (Q : VK), Room k (A.deeper (envOfC d.qual d.scope s.heap.objs.size f cdv)) → sp vs H Q E →
    ∃ t, PSs (cxOf CX0 P w K mg base N d.qual d.scope f cdv A outer s H E).nox d.body t ∧ t { nx := fun _ H' => Q .non H', rt := Q } (L2.start N vs) H
theorem Tx.mkS (T : Tx K mg) (i : Nat) (d : He.DefD) {N ps : List PySem.Str} {k : Nat} {sp : Sp} (S : FnScope N ps d.scope)
    (hb : ∀ (kV doc pm : Value) (an : Option Addr) (cdv ct : Value) (us : List Value), us.length = ps.length → bindArgs (PySem.W.fnOf d.name d.qual d.params d.body d.scope .none kV doc pm an cdv ct) ⟨us, []⟩ = pure (ps.zip us))
    (len : ∀ vs H Q E, sp vs H Q E → vs.length = ps.length) (body : BodyS P w K mg base k d N sp)
    (hd : fnL[i]? = some d := by rfl) (hg : faL[i]? = some (.glo d.name) := by rfl) (hat : d.at_ = (d.name, none) := by rfl) (h1 : d.dfl = [] := by rfl) : FnS P w K mg base (k + 1) d.name ps sp := by
  obtain ⟨fd, F⟩ := T.def_ i hd
  have e : He.fAd K d.at_ = He.ga K d.name := by rw [hat]; rfl
  have e2 : d.dvs K = [] := by unfold He.DefD.dvs; rw [h1]; rfl
  rw [e2] at F
  refine ⟨He.fAd K d.at_, fd, F.ok S len fun cdv A outer s H vs Q E hr h => ?_, by rw [e]; exact T.glo i hg, F.kp, F.bindsN hb⟩
  obtain ⟨t, h1, h2⟩ := body _ cdv A outer s H E vs Q hr h
  exact ⟨t, PSs.nox h1, h2⟩
theorem pe_callS {X : Cx} {k k' : Nat} {x : PySem.Str} {ps : List PySem.Str} {sp : Sp} {a : Expr} {es : List Expr} {t : TA} {pos p : Pos} (F : FnS X.prog X.w X.K X.mg X.base k x ps sp) (hr : Room k' X.A) (hk : k ≤ k') (hg : Gl X x) (ha : PA X (a :: es) t)
    (hdb : (x == ("__debug__" : PySem.Str)) = false := by decide) (he : starEach (a :: es) X.env = (false, eval a X.env) :: starEach es X.env := by rfl) (hpl : (backTo pos (starEach es X.env)).any (·.1) = false := by rfl) :
    PE X (.Call (.Name x p) (a :: es) [] pos) (tCall sp [] E0 t) := by
  obtain ⟨ad, fd, h1, h2, h3, h4⟩ := F.ex
  exact pe_call h1 (hr.mono hk) hg h2 h3 h4 .nil pass0 ha hdb he hpl
theorem feed_upd {H : Hp} {f c : Addr} {a l n : Int} (F : FeedAt H f c) : FeedAt (upd H f (.dK (feedK c a l n))) f c := by
  obtain ⟨⟨a', l', n', h1⟩, ns, hn, h2⟩ := F
  refine ⟨⟨a, l, n, upd_same⟩, ns, hn, ?_⟩
  rw [upd_ne (fun e => by subst e; rw [h1] at h2; cases h2)]
  exact h2
theorem FeedAt.keepOf {H H' : Hp} {f c : Addr} (F : FeedAt H f c) (x : Ext H H') : FeedAt H' f c := by
  obtain ⟨⟨a', l', n', h1⟩, ns, hn, h2⟩ := F
  exact ⟨⟨a', l', n', x _ _ h1⟩, ns, hn, x _ _ h2⟩
theorem ints_shaped : ∀ ns : List Int, PyData.canLayAll0 (ns.map PyData.int) = true ∧ PyData.depthAll (ns.map PyData.int) ≤ 1
  | [] => by simp [PyData.canLayAll0, PyData.depthAll]
  | n :: ns => by
    obtain ⟨h1, h2⟩ := ints_shaped ns
    simp [PyData.canLayAll0, PyData.depthAll, PyData.canLay0, PyData.depth, h1] 
    exact h2
theorem list_shaped (ns : List Int) : SeqAt.shaped (.list (ns.map PyData.int)) = true := by
  obtain ⟨h1, h2⟩ := ints_shaped ns
  unfold SeqAt.shaped
  simp only [PyData.canLay0, PyData.depth, h1, Bool.true_and]
  exact decide_eq_true (by omega)
theorem dget {H : Hp} {g c : Addr} {a l n : Int} (k : PySem.Str) {v : V} (h1 : H g = some (.dK (feedK c a l n))) (h2 : valV (feedK c a l n) (.inr k) = some v) : DGet H g (.str k) (some v) := by rw [← h2]; exact DGet.k (k := .inr k) h1
theorem dput {H : Hp} {g c : Addr} {a l n a' l' n' : Int} (k : PySem.Str) {v : V} (h1 : H g = some (.dK (feedK c a l n))) (h2 : putK (feedK c a l n) (.inr k) v = feedK c a' l' n') : DPut H g (.str k) v (upd H g (.dK (feedK c a' l' n'))) := by
  rw [← h2]
  exact DPut.k (k := .inr k) h1 (Nat.lt_of_lt_of_le (show 4 < 100 by decide) (by decide))
theorem iteT {c : Prop} {h : Decidable c} {A B : Prop} (hc : c) (a : A) : @ite Prop c h A B := by rw [if_pos hc]; exact a
theorem iteF {c : Prop} {h : Decidable c} {A B : Prop} (hc : ¬ c) (a : B) : @ite Prop c h A B := by rw [if_neg hc]; exact a
abbrev rInt1 : List V → Hp → VK → Prop := fun xs H Q => (∃ i, xs = [V.int i] ∧ Q (V.int i) H) ∨ ∃ k, xs = [V.bl k] ∧ Q (V.int (if k = true then 1 else 0)) H
abbrev rLenS (K : PySem.W.Frag) : List V → Hp → VK → Prop := fun xs H Q => ∃ p ys, xs = [V.ref p] ∧ (SqL K H p ys ∨ SqT K H p ys) ∧ Q (V.int ↑ys.length) H
abbrev rMod : R2 := rI (fun x j => 0 < j) fun i j => V.int (i % j)
theorem ints_at {ns : List Int} {i : Nat} (h : i < ns.length) : ∃ n, (ns.map V.int)[i]? = some (.int n) := ⟨ns[i], by rw [List.getElem?_map, List.getElem?_eq_getElem h]; rfl⟩
theorem cell_read {K : PySem.W.Frag} {g c : Addr} {a l n ai : Int} {ns : List Int} {σ : L2.St} {H : Hp} {Q : VK} (h0 : σ[0]? = some (some (.ref g))) (h3 : σ[3]? = some (some (.int ai))) (hd : H g = some (.dK (feedK c a l n))) (hl : H c = some (.lst (ns.map V.int)))
    (q : ∀ (cell : Int) (H3 : Hp), Ext H H3 → Q (.int cell) H3) :
    tIf (tTest (tOp (rNeD K) (tDGet (tVar 0) (tC (V.str (PySem.Str.ofString "cells")))) (tLst tNil)))
      (tOp (rIxL K) (tDGet (tVar 0) (tC (V.str (PySem.Str.ofString "cells")))) (tOp rMod (tCB rInt1 (tCons (tVar 3) tNil)) (tCB (rLenS K) (tCons (tDGet (tVar 0) (tC (V.str (PySem.Str.ofString "cells")))) tNil))))
      (tC (V.int 88799)) σ H Q := by
  refine ⟨.ref g, h0, g, .ref c, rfl, dget "cells" hd val_cells, Nat.zero_le _, fun p hp => ?_⟩
  have x := Ext.new (o := HO.lst []) hp
  have hl3 := x _ _ hl
  have hd3 := x _ _ hd
  have hp3 : (upd H p (.lst [])) p = some (.lst []) := upd_same
  generalize upd H p (.lst []) = H3 at x hl3 hd3 hp3 ⊢
  have r1 : Dp K H3 (.ref c) (.list (ns.map PyData.int)) := .lst (SqL.of hl3) (dpa_lib (H := H3) (Ext.refl _) (dpa_of_ints ns))
  have r2 : Dp K H3 (.ref p) (.list (([] : List Int).map PyData.int)) := .lst (SqL.of hp3) (dpa_lib (H := H3) (Ext.refl _) (dpa_of_ints []))
  refine ⟨_, _, r1, r2, list_shaped ns, list_shaped [], _, rfl, ?_⟩
  cases ns with
  | nil =>
    refine iteF (fun z => ?_) (q _ H3 x)
    have e : (!PyData.eqv (.list (([] : List Int).map PyData.int)) (.list (([] : List Int).map PyData.int))) = false := by rfl
    rw [e] at z
    cases z
  | cons b bs =>
    refine iteT ?_ ?_
    · rfl
    · refine ⟨.ref g, h0, g, .ref c, rfl, dget "cells" hd3 val_cells, .int ai, h3, .inl ⟨ai, rfl, .ref g, h0, g, .ref c, rfl, dget "cells" hd3 val_cells, c, _, rfl, .inl (SqL.of hl3), ai, _, rfl, rfl, ?_, ?_⟩⟩
      · show (0 : Int) < (((b :: bs).map V.int).length : Int)
        simp
      · have e1 := Int.emod_nonneg ai (b := (((b :: bs).map V.int).length : Int)) (by rw [List.length_map, List.length_cons]; omega)
        have e2 := Int.emod_lt_of_pos ai (b := (((b :: bs).map V.int).length : Int)) (by rw [List.length_map, List.length_cons]; omega)
        have hj : (ai % (((b :: bs).map V.int).length : Int)).toNat < (b :: bs).length := by rw [List.length_map] at e1 e2 ⊢; omega
        obtain ⟨n', hn⟩ := ints_at hj
        refine ⟨c, _, ai % (((b :: bs).map V.int).length : Int), .int n', rfl, rfl, SqL.of hl3, ?_, q _ H3 x⟩
        unfold atI ixN
        rw [if_pos e1, if_pos e2]
        exact hn
theorem iteB {c : Prop} {h : Decidable c} {A B : Prop} (a : A) (b : B) : @ite Prop c h A B := by split <;> assumption
theorem ok_draw (T : Tx K mg) : FnS P w K mg base 1 "_law_draw" ["_law_feed_here", "_law_many"] spDraw :=
  T.mkS 53 d__law_draw sc__law_draw (fun _ _ _ _ _ _ us hl => match us, hl with | [_, _], _ => rfl) (fun vs H Q E ⟨f, c, m, e, _⟩ => by rw [e]; rfl) fun fa cdv A outer s H E vs Q hr h => by
    have hu := hr.units
    have hu1 := Nat.lt_of_le_of_lt (Nat.add_le_add_left (show 1 ≤ 64 by decide) _) hu
    refine ⟨_, pss_cons (ps_dput hu1 (pv 0) pe_str (pe_op op_add (pe_dget hu1 (pv 0) pe_str nosl) pe_int) rfl)
      (pss_cons (ps_if (pt_cmpR op_gt (pe_dget hu1 (pv 0) pe_str nosl) pe_int (nomark _))
        (pss_cons (ps_set (i := 2) sc__law_draw.nd rfl (Or.inl rfl) (pe_op op_mod (pe_callTy call_int1 (by rfl) (T.free 79) (by decide +kernel) (pa_cons (pe_dget hu1 (pv 0) pe_str nosl) pa_nil)) (pv 1)))
          (pss_cons (ps_dput hu1 (pv 0) pe_str (pe_op op_fdiv (pe_dget hu1 (pv 0) pe_str nosl) (pv 1)) rfl)
            (pss_one (ps_ret (pv 2))))) pss_nil)
      (pss_cons (ps_set (i := 3) sc__law_draw.nd rfl (Or.inl rfl) (pe_dget hu1 (pv 0) pe_str nosl))
      (pss_cons (ps_dput hu1 (pv 0) pe_str (pe_op op_add (pv 3) pe_int) rfl)
      (pss_cons (ps_set (i := 4) sc__law_draw.nd rfl (Or.inl rfl) (pe_ifExp (pt_cmpR (op_neD hu) (pe_dget hu1 (pv 0) pe_str nosl) (pe_lst pa_nil) (nomark _))
          (pe_ix ix_list (pe_dget hu1 (pv 0) pe_str nosl) (pe_op op_mod (pe_callTy call_int1 (by rfl) (T.free 79) (by decide +kernel) (pa_cons (pv 3) pa_nil)) (pe_callB call_len_seq (by rfl) (T.free 82) PySem.boot_len (pa_cons (pe_dget hu1 (pv 0) pe_str nosl) pa_nil))) (fun _ _ => rfl)) pe_int))
      (pss_cons (ps_if (PW.pt (pw_and (pt_cmpR op_ge (pv 4) (pe_op op_pow pe_int pe_int) (nomark _)) (pw_and1 (pt_cmpR op_lt (pv 3) (pe_callB call_len_seq (by rfl) (T.free 82) PySem.boot_len (pa_cons (pe_dget hu1 (pv 0) pe_str nosl) pa_nil)) (nomark _)))))
        (pss_cons (ps_dput hu1 (pv 0) pe_str (pe_op op_fdiv (pv 4) (pv 1)) rfl)
          (pss_one (ps_ret (pe_op op_mod (pe_callTy call_int1 (by rfl) (T.free 79) (by decide +kernel) (pa_cons (pv 4) pa_nil)) (pv 1))))) pss_nil)
      (pss_cons (ps_set (i := 5) sc__law_draw.nd rfl (Or.inl rfl) (pe_op op_mod (pe_callTy call_int1 (by rfl) (T.free 79) (by decide +kernel) (pa_cons
          (pe_op op_add (pe_op op_add (pe_op op_mod (pe_callTy call_int1 (by rfl) (T.free 79) (by decide +kernel) (pa_cons (pv 4) pa_nil)) pe_int) (pe_op op_mul pe_int (pe_dget hu1 (pv 0) pe_str nosl))) pe_int) pa_nil)) pe_int))
      (pss_cons (ps_set (i := 5) sc__law_draw.nd rfl (Or.inl rfl) (pe_op op_mod (pe_callTy call_int1 (by rfl) (T.free 79) (by decide +kernel) (pa_cons
          (pe_op op_add (pe_op op_add (pe_op op_mul (pv 5) (pv 5)) (pe_op op_mul pe_int (pe_dget hu1 (pv 0) pe_str nosl))) pe_int) pa_nil)) pe_int))
      (pss_one (ps_ret (pe_op op_mod (pe_callTy call_int1 (by rfl) (T.free 79) (by decide +kernel) (pa_cons
          (pe_op op_fdiv (pe_op op_mod (pe_callTy call_int1 (by rfl) (T.free 79) (by decide +kernel) (pa_cons (pe_op op_add (pe_op op_mul (pv 5) (pv 5)) (pe_op op_mul pe_int (pv 5))) pa_nil)) pe_int) pe_int) pa_nil)) (pv 1))))))))))), ?_⟩
    obtain ⟨g, c, m, rfl, m0, m1, F, hq⟩ := h
    have F0 := F
    obtain ⟨⟨a, l, n, hd⟩, ns, hns, hl⟩ := F
    have sz : ∀ {a l n}, (feedK c a l n).length < sizeLine := fun {a l n} => Nat.lt_of_lt_of_le (show 4 < 100 by decide) (by decide)
    refine ⟨.ref g, rfl, g, .int n, rfl, dget "count" hd val_count, n, 1, rfl, rfl, .ref g, rfl, g, _, rfl, dput "count" hd put_count, ?_⟩
    have F1 : FeedAt (upd H g (.dK (feedK c a l (n + 1)))) g c := feed_upd F0
    have hd1 : (upd H g (.dK (feedK c a l (n + 1)))) g = some (.dK (feedK c a l (n + 1))) := upd_same
    have K1 : Keep g H (upd H g (.dK (feedK c a l (n + 1)))) := Keep.put
    generalize upd H g (.dK (feedK c a l (n + 1))) = H1 at F1 hd1 K1 ⊢
    refine ⟨.ref g, rfl, g, .int l, rfl, dget "left" hd1 val_left, l, 0, rfl, rfl, decide (l > 0), rfl, ?_⟩
    have mm : ∀ i : Int, 0 ≤ i % m ∧ i % m < m := fun i => ⟨Int.emod_nonneg i (by omega), Int.emod_lt_of_pos i m0⟩
    by_cases hl0 : l > 0
    · refine iteT (decide_eq_true hl0) ?_
      refine ⟨.ref g, rfl, g, .int l, rfl, dget "left" hd1 val_left, .inl ⟨l, rfl, .int m, rfl, l, m, rfl, rfl, m0, ?_⟩⟩
      refine ⟨.ref g, rfl, g, .int l, rfl, dget "left" hd1 val_left, .int m, rfl, l, m, rfl, rfl, ⟨m0, m1⟩, .ref g, rfl, g, _, rfl, dput "left" hd1 put_left, ?_⟩
      exact ⟨.int (l % m), rfl, hq _ _ (mm l).1 (mm l).2 (feed_upd F1) (K1.trans Keep.put)⟩
    · refine iteF (fun z => hl0 (of_decide_eq_true z)) ?_
      refine ⟨.ref g, rfl, g, .int a, rfl, dget "at" hd1 val_at, ?_⟩
      refine ⟨.int a, rfl, a, 1, rfl, rfl, .ref g, rfl, g, _, rfl, dput "at" hd1 put_at, ?_⟩
      have F2 : FeedAt (upd H1 g (.dK (feedK c (a + 1) l (n + 1)))) g c := feed_upd F1
      have hd2 : (upd H1 g (.dK (feedK c (a + 1) l (n + 1)))) g = some (.dK (feedK c (a + 1) l (n + 1))) := upd_same
      have K2 : Keep g H (upd H1 g (.dK (feedK c (a + 1) l (n + 1)))) := K1.trans Keep.put
      generalize upd H1 g (.dK (feedK c (a + 1) l (n + 1))) = H2 at F2 hd2 K2 ⊢
      have F2' := F2
      obtain ⟨_, ns, hns, hl⟩ := F2
      refine cell_read (ai := a) rfl rfl hd2 hl fun cell H3 x3 => ?_
      have F3 := F2'.keepOf x3
      have hd3 := x3 _ _ hd2
      have hl3 := x3 _ _ hl
      have K3 : Keep g H H3 := K2.trans (Keep.ext x3)
      -- the test
      refine ⟨.int cell, rfl, 10, 18, rfl, rfl, ⟨by decide, by decide, by decide⟩, cell, _, rfl, rfl, _, rfl, ?_⟩
      have md : ∀ i k : Int, 0 < k → 0 ≤ i % k ∧ i % k < k := fun i k hk => ⟨Int.emod_nonneg i (by omega), Int.emod_lt_of_pos i hk⟩
      refine iteB ?_ (iteF (by decide) ?_)
      · refine ⟨.int a, rfl, .ref g, rfl, g, .ref c, rfl, dget "cells" hd3 val_cells, c, _, rfl, .inl (SqL.of hl3), a, _, rfl, rfl, _, rfl, iteB ?_ ?_⟩
        · refine ⟨.int cell, rfl, .int m, rfl, cell, m, rfl, rfl, ⟨m0, m1⟩, .ref g, rfl, g, _, rfl, dput "left" hd3 put_left, ?_⟩
          exact ⟨.int cell, rfl, .inl ⟨cell, rfl, .int m, rfl, cell, m, rfl, rfl, m0, hq _ _ (mm cell).1 (mm cell).2 (feed_upd F3) (K3.trans Keep.put)⟩⟩
        · refine ⟨.int cell, rfl, .inl ⟨cell, rfl, cell, 1000000787, rfl, rfl, (show (0 : Int) < 1000000787 by decide), .ref g, rfl, g, .int (n + 1), rfl, dget "count" hd3 val_count, 71333, n + 1, rfl, rfl, .inl ⟨by decide, by decide⟩, _, _, rfl, rfl, _, 1009, rfl, rfl, .inl ⟨_, rfl, _, 2147483579, rfl, rfl, (show (0 : Int) < 2147483579 by decide), ?_⟩⟩⟩
          have q5 := md (cell % 1000000787 + 71333 * (n + 1) + 1009) 2147483579 (by decide)
          dsimp only
          generalize (cell % 1000000787 + 71333 * (n + 1) + 1009) % 2147483579 = x5 at q5 ⊢
          refine ⟨.int x5, rfl, .int x5, rfl, x5, x5, rfl, rfl, .inl ⟨by omega, by omega⟩, .ref g, rfl, g, .int (n + 1), rfl, dget "count" hd3 val_count, 6101387, n + 1, rfl, rfl, .inl ⟨by decide, by decide⟩, _, _, rfl, rfl, _, 1009, rfl, rfl, .inl ⟨_, rfl, _, 2147483549, rfl, rfl, (show (0 : Int) < 2147483549 by decide), ?_⟩⟩
          have q6 := md (x5 * x5 + 6101387 * (n + 1) + 1009) 2147483549 (by decide)
          dsimp only
          generalize (x5 * x5 + 6101387 * (n + 1) + 1009) % 2147483549 = x6 at q6 ⊢
          exact ⟨.int x6, rfl, .int x6, rfl, x6, x6, rfl, rfl, .inl ⟨by omega, by omega⟩, .int x6, rfl, 1129, x6, rfl, rfl, .inl ⟨by decide, by decide⟩, _, _, rfl, rfl, .inl ⟨_, rfl, _, 2147483543, rfl, rfl, (show (0 : Int) < 2147483543 by decide), _, 16, rfl, rfl, ⟨by decide, by decide⟩, .inl ⟨_, rfl, .int m, rfl, _, m, rfl, rfl, m0, hq _ _ (mm _).1 (mm _).2 F3 K3⟩⟩⟩
      · refine ⟨.int cell, rfl, .inl ⟨cell, rfl, cell, 1000000787, rfl, rfl, (show (0 : Int) < 1000000787 by decide), .ref g, rfl, g, .int (n + 1), rfl, dget "count" hd3 val_count, 71333, n + 1, rfl, rfl, .inl ⟨by decide, by decide⟩, _, _, rfl, rfl, _, 1009, rfl, rfl, .inl ⟨_, rfl, _, 2147483579, rfl, rfl, (show (0 : Int) < 2147483579 by decide), ?_⟩⟩⟩
        have q5 := md (cell % 1000000787 + 71333 * (n + 1) + 1009) 2147483579 (by decide)
        dsimp only
        generalize (cell % 1000000787 + 71333 * (n + 1) + 1009) % 2147483579 = x5 at q5 ⊢
        refine ⟨.int x5, rfl, .int x5, rfl, x5, x5, rfl, rfl, .inl ⟨by omega, by omega⟩, .ref g, rfl, g, .int (n + 1), rfl, dget "count" hd3 val_count, 6101387, n + 1, rfl, rfl, .inl ⟨by decide, by decide⟩, _, _, rfl, rfl, _, 1009, rfl, rfl, .inl ⟨_, rfl, _, 2147483549, rfl, rfl, (show (0 : Int) < 2147483549 by decide), ?_⟩⟩
        have q6 := md (x5 * x5 + 6101387 * (n + 1) + 1009) 2147483549 (by decide)
        dsimp only
        generalize (x5 * x5 + 6101387 * (n + 1) + 1009) % 2147483549 = x6 at q6 ⊢
        exact ⟨.int x6, rfl, .int x6, rfl, x6, x6, rfl, rfl, .inl ⟨by omega, by omega⟩, .int x6, rfl, 1129, x6, rfl, rfl, .inl ⟨by decide, by decide⟩, _, _, rfl, rfl, .inl ⟨_, rfl, _, 2147483543, rfl, rfl, (show (0 : Int) < 2147483543 by decide), _, 16, rfl, rfl, ⟨by decide, by decide⟩, .inl ⟨_, rfl, .int m, rfl, _, m, rfl, rfl, m0, hq _ _ (mm _).1 (mm _).2 F3 K3⟩⟩⟩
end
end Mf
set_option Elab.async false
set_option linter.all false
set_option maxRecDepth 100000
set_option maxHeartbeats 4000000
namespace Mf
open PySem PySem.Spec PyProof.Rows L2 Ly
def spPick : Sp := fun vs H Q _ => ∃ g c t xs, vs = [.ref g, .ref t] ∧ (H t = some (.lst xs) ∨ H t = some (.tup xs)) ∧ 0 < xs.length ∧ xs.length < 1073741824 ∧ FeedAt H g c ∧ ∀ (i : Nat) x H', xs[i]? = some x → FeedAt H' g c → Keep g H H' → Q x H'
def spFeed (K : PySem.W.Frag) : Sp := fun vs H Q _ => ∃ (a : Addr) (ns : List Int), vs = [.ref a] ∧ SqL K H a (ns.map V.int) ∧ ns.length ≤ 1000 ∧ ∀ g c H', H g = none → Ext H H' → FeedAt H' g c → Q (.ref g) H'
theorem sql_ext {K : PySem.W.Frag} {H H' : Hp} {a : Addr} {xs : List V} (h : SqL K H a xs) (e : Ext H H') : SqL K H' a xs :=
  h.elim (fun h => .inl (h.elim (fun h => .inl (e _ _ h)) fun ⟨o, h⟩ => .inr ⟨o, e _ _ h⟩)) fun h => .inr h
def n__law_pick : List PySem.Str := ["_law_feed_here", "_law_things"]
theorem sc__law_pick : FnScope n__law_pick ["_law_feed_here", "_law_things"] (defScope s__law_pick) := ⟨rfl, rfl, rfl, by decide +kernel, rfl, by decide +kernel, by decide +kernel⟩
def n__law_feed : List PySem.Str := ["_law_script"]
theorem sc__law_feed : FnScope n__law_feed ["_law_script"] (defScope s__law_feed) := ⟨rfl, rfl, rfl, by decide +kernel, rfl, by decide +kernel, by decide +kernel⟩
section
variable {P : Program} {w : World} {K : PySem.W.Frag} {mg : PySem.Str → Option Value} {base : Heap}
theorem ok_pick (T : Tx K mg) : FnS P w K mg base 2 "_law_pick" ["_law_feed_here", "_law_things"] spPick :=
  T.mkS 54 d__law_pick sc__law_pick (fun _ _ _ _ _ _ us hl => match us, hl with | [_, _], _ => rfl) (fun vs H Q E ⟨f, c, m, xs, e, _⟩ => by rw [e]; rfl) fun fa cdv A outer s H E vs Q hr h => by
    refine ⟨_, pss_one (ps_ret (pe_ix (ix_list.or ix_tup) (pv 1) (pe_callS (ok_draw T) hr (by decide) (by rfl) (pa_cons (pv 0) (pa_cons (pe_callB call_len_seq (by rfl) (T.free 82) PySem.boot_len (pa_cons (pv 1) pa_nil)) pa_nil))) (fun _ _ => rfl))), ?_⟩
    obtain ⟨g, c, t, xs, rfl, ht, z0, z1, F, hq⟩ := h
    have tg : t ≠ g := fun e => by
      subst e
      obtain ⟨⟨_, _, _, hd⟩, _⟩ := F
      rw [hd] at ht
      rcases ht with e | e <;> cases e
    refine ⟨.ref t, rfl, .ref g, rfl, .ref t, rfl, t, xs, rfl, ?_, g, c, (xs.length : Int), rfl, by omega, by omega, F, fun r H' r0 r1 F' k => ?_⟩
    · rcases ht with e | e
      · exact .inl (SqL.of e)
      · exact .inr (SqT.of e)
    · have hi : r.toNat < xs.length := by omega
      have ha : atI xs r = some xs[r.toNat] := by
        unfold atI ixN
        rw [if_pos r0, if_pos r1]
        exact List.getElem?_eq_getElem hi
      have q := hq r.toNat _ H' (List.getElem?_eq_getElem hi) F' k
      rcases ht with e | e
      · exact .inl ⟨t, xs, r, _, rfl, rfl, SqL.of (k _ _ tg e), ha, q⟩
      · exact .inr ⟨t, xs, r, _, rfl, rfl, SqT.of (k _ _ tg e), ha, q⟩
theorem ok_feed (T : Tx K mg) : FnS P w K mg base 1 "_law_feed" ["_law_script"] (spFeed K) :=
  T.mkS 52 d__law_feed sc__law_feed (fun _ _ _ _ _ _ us hl => match us, hl with | [_], _ => rfl) (fun vs H Q E ⟨a, ns, e, _⟩ => by rw [e]; rfl) fun fa cdv A outer s H E vs Q hr h => by
    refine ⟨_, pss_one (ps_ret (pe_disp (pps_cons pe_str (pe_callTy call_list_of (by rfl) (T.free 87) (by decide +kernel) (pa_cons (pe_slice sl_list (pv 0) po_none (po_some pe_int)) pa_nil)) (pps_cons pe_str pe_int (pps_cons pe_str pe_int (pps_cons pe_str pe_int pps_nil)))) rfl rfl (by intro z; cases z) (by decide))), ?_⟩
    obtain ⟨a, ns, rfl, hs, hn, hq⟩ := h
    intro p hp
    have x1 := Ext.new (o := HO.dK []) hp
    have hs1 : SqL K (upd H p (.dK [])) a (ns.map V.int) := sql_ext hs x1
    refine ⟨.ref a, rfl, 63, rfl, a, _, rfl, hs1, fun q hq1 => ⟨q, _, rfl, .inl (SqL.of upd_same), fun c hc => ?_⟩⟩
    have x2 := Ext.new (o := HO.lst (cutV (ns.map V.int) none (some 63))) hq1
    have x3 := Ext.new (o := HO.lst (cutV (ns.map V.int) none (some 63))) hc
    have hp3 := x3 _ _ (x2 _ _ (upd_same (H := H) (a := p) (o := HO.dK [])))
    have hc3 : (upd (upd (upd H p (.dK [])) q (.lst (cutV (ns.map V.int) none (some 63)))) c (.lst (cutV (ns.map V.int) none (some 63)))) c = some (.lst (cutV (ns.map V.int) none (some 63))) := upd_same
    have X := x1.trans (x2.trans x3)
    refine ⟨hp3, feedK c 0 0 0, rfl, by show 4 ≤ 15; decide, ?_⟩
    have e : mergeK [] (feedK c 0 0 0) = feedK c 0 0 0 := by rfl
    rw [e]
    have e63 : cutV (ns.map V.int) none (some 63) = (ns.take 63).map V.int := by
      have := Ly.cut_to (ns.map V.int) 63
      rw [List.map_take]
      exact this
    refine hq p c _ hp (X.mut hp) ⟨⟨0, 0, 0, upd_same⟩, ns.take 63, by rw [List.length_take]; omega, ?_⟩
    rw [upd_ne (fun z => by subst z; rw [hp3] at hc3; cases hc3), hc3, e63]
end
end Mf
set_option Elab.async false
set_option linter.all false
set_option maxRecDepth 100000
set_option maxHeartbeats 4000000
namespace Mf
open PySem PySem.Spec PyProof.Rows L2 Ly
/-! statements that draw -/
theorem lcD_core {K : PySem.W.Frag} {tg : Tg} {mt : MB} {me : ME} {vs : List Nat} (hsl : ∀ i ∈ tg.sl, i ∈ vs) {σ : L2.St} {H H1 : Hp} {Q : VK} {O : List Addr} {r : List Sl} {out' ds : List PyData} {J : It} {D : Addr} (E : En O r σ H) (x1 : Ext H H1)
    (e2 : lcGo tg mt me (wipeR r vs) ds = some out') (hz : out'.length ≤ 100000) (k : ∀ p ws H', H p = none → Ext H H' → H' p = some (.lst ws) → RpAll (hide (p :: O) H') ws out' → Q (.ref p) H') (wd : WalkD O J ds H1) (hD : H1 D = none) :
    ∃ W : Nat → Nat → Hp → Prop, (∃ m, W 0 m (upd H1 D (.lst []))) ∧ ∀ i m H, W i m H →
      ((J.stop i H ∧ Q (.ref D) H) ∨ (J.go i H ∧ ∃ Nx : Hp → Prop, (∀ H', Nx H' → ∃ m', m' < m ∧ W (i + 1) m' H') ∧ ∀ x H', J.yld i H x H' → gT K tg x (L2.wipe σ vs) H' fun σ2 H2 => L2.wipe σ2 vs = L2.wipe σ vs ∧ TB mt σ2 H2 fun b H3 =>
        if b = true then TD me σ2 H3 fun y H4 => ∃ acc, H4 D = some (.lst acc) ∧ acc.length < sizeLine ∧ Nx (upd H4 D (.lst (acc ++ [y]))) else Nx H3)) := by
  obtain ⟨G, Y, w, wG, wY⟩ := wd.ex
  refine lp_it (Stop := fun H => Q (.ref D) H) (Step := fun Nx x H' => gT K tg x (L2.wipe σ vs) H' fun σ2 H2 => L2.wipe σ2 vs = L2.wipe σ vs ∧ TB mt σ2 H2 fun b H3 => if b = true then TD me σ2 H3 fun y H4 => ∃ acc, H4 D = some (.lst acc) ∧ acc.length < sizeLine ∧ Nx (upd H4 D (.lst (acc ++ [y]))) else Nx H3) w (fun i H => ∃ rest, lcGo tg mt me (wipeR r vs) (ds.drop i) = some rest ∧ Grow H1 O D out' rest H) ⟨out', e2, Ext.new hD, [], [], upd_same, .nil, rfl⟩ (fun i H _ p => by
    obtain ⟨_, _, g⟩ := p
    exact wG O H (hide_ext g.1)) (fun i x H H' hi p y => ?_) fun H p => ?_
  · obtain ⟨rest, hr, g⟩ := p
    obtain ⟨d, hd, hdrop⟩ := drop_cons hi
    rw [hdrop] at hr
    obtain ⟨r1, s1, hr⟩ := bind_some hr
    obtain ⟨b, s2, hr⟩ := bind_some hr
    have dD : H D ≠ none := by obtain ⟨_, ys, _, q, _⟩ := g; rw [q]; exact fun z => nomatch z
    have dO : ∀ p ∈ D :: O, H p ≠ none := fun p hp z => by
      rcases List.mem_cons.mp hp with rfl | hp
      · exact dD z
      · exact E.dom p hp (x1.none_of (g.1.none_of z))
    obtain ⟨y1, y2⟩ := wY i H x H' (D :: O) hi dO (hide_ext_cons g.1 hD) y
    have E1 : En (D :: O) (wipeR r vs) (L2.wipe σ vs) H' := ((E.ext x1).more (g.1.trans y1) hD fun z => dD (y1.none_of z)).wipe vs
    refine gT_ok E1 (y2 d hd) s1 fun σ2 E2 hw fr => ⟨by rw [hw vs hsl, wipe_wipe σ vs vs fun _ h => h], D :: O, r1, b, E2, s2, fun H3 x3 => ?_⟩
    have g3 := (g.ext y1).ext x3
    cases b with
    | false => exact ⟨rest, hr, g3⟩
    | true =>
      obtain ⟨e, s3, hr⟩ := bind_some hr
      obtain ⟨rest', s4, hr⟩ := map_some hr
      subst hr
      exact ⟨D :: O, r1, e, E2.ext x3, s3, fun v H4 x4 q4 => by
        obtain ⟨acc, a1, a2, a3⟩ := g3.add hD x4 hz q4
        exact ⟨acc, a1, a2, rest', s4, a3⟩⟩
  · obtain ⟨rest, hr, g⟩ := p
    rw [List.drop_length] at hr
    cases hr
    obtain ⟨x2, ys, done, h1, h2, h3⟩ := g
    rw [List.append_nil] at h3
    subst h3
    exact k D ys H (x1.none_of hD) (x1.trans x2) h1 h2

end Mf
set_option Elab.async false
set_option linter.all false
set_option maxRecDepth 100000
set_option maxHeartbeats 4000000
namespace Mf
open PySem PySem.Spec PyProof.Rows L2 Ly
structure StF (g c : Addr) (O : List Addr) (r : List Sl) (σ : L2.St) (H : Hp) : Prop where
  en : En O r σ H
  mem : g ∈ O
  fd : FeedAt H g c
  nc : c ∉ O
  fr : Free g r σ
theorem StF.ext {g c : Addr} {O : List Addr} {r : List Sl} {σ : L2.St} {H H' : Hp} (S : StF g c O r σ H) (x : Ext H H') : StF g c O r σ H' := ⟨S.en.ext x, S.mem, S.fd.keepOf x, S.nc, S.fr⟩
theorem hide_keep {g : Addr} {O : List Addr} {H H' : Hp} (hg : g ∈ O) (k : Keep g H H') : Ext (hide O H) (hide O H') := fun a o h => by
  obtain ⟨h1, h2⟩ := hide_some.mp h
  exact hide_some.mpr ⟨h1, k a o (fun e => h1 (e ▸ hg)) h2⟩
theorem StF.keep {g c : Addr} {O : List Addr} {r : List Sl} {σ : L2.St} {H H' : Hp} (S : StF g c O r σ H) (k : Keep g H H') (F : FeedAt H' g c) : StF g c O r σ H' := by
  have hk := hide_keep S.mem k
  refine ⟨⟨S.en.len, fun i x s h1 h2 => ?_, fun p hp z => ?_, S.en.inj⟩, S.mem, F, S.nc, S.fr⟩
  · have q := S.en.sl i x s h1 h2
    cases s with
    | no => trivial
    | pt a => exact q
    | val d => obtain ⟨v, a1, a2⟩ := q; exact ⟨v, a1, dp_ext hk a2⟩
    | own ds =>
      obtain ⟨p, vs, a1, a2, a3, a4⟩ := q
      subst a1
      exact ⟨p, vs, rfl, a2, k _ _ (fun e => S.fr i ds h2 (by rw [h1, e])) a3, dpa_ext hk a4⟩
  · by_cases e : p = g
    · subst e
      obtain ⟨⟨_, _, _, h⟩, _⟩ := F
      rw [h] at z; cases z
    · cases q : H p with
      | none => exact S.en.dom p hp q
      | some o => rw [k p o e q] at z; cases z
theorem StF.setVal {g c : Addr} {O : List Addr} {r : List Sl} {σ : L2.St} {H : Hp} (S : StF g c O r σ H) (i : Nat) {v : V} {d : PyData} (q : Rp (hide O H) v d) : StF g c O (r.set i (.val d)) (σ.set i (some v)) H :=
  ⟨S.en.setVal i q, S.mem, S.fd, S.nc, S.fr.set i _ _ fun es z => by cases z⟩
abbrev WS := Addr → List Sl → (Out → Prop) → Prop
def PostF (D : Ends) (g c : Addr) : Out → Prop
  | .nx r => ∀ O σ H, StF g c O r σ H → D.nx σ H
  | .rt d => ∀ v H, (∃ O, Rp (hide O H) v d) → FeedAt H g c → D.rt v H
def TF (w : WS) : TS := fun D σ H => ∃ g c O r Φ, StF g c O r σ H ∧ w g r Φ ∧ ∀ out, Φ out → PostF D g c out
def wP (m : MS) : WS := fun _ r Φ => ∃ out, m r = some out ∧ Φ out
def wSeq (a b : WS) : WS := fun g r Φ => a g r fun out => match out with
  | .nx r1 => b g r1 Φ
  | .rt d => Φ (.rt d)
section
variable {X : Cx} {st : Stmt} {sts sts1 sts2 : List Stmt} {m : MS} {w1 w2 : WS}
theorem lift_pure {D : Ends} {σ : L2.St} {H : Hp} (h : TF (wP m) D σ H) : TZ m D σ H := by
  obtain ⟨g, c, O, r, Φ, S, ⟨out, hm, hΦ⟩, P⟩ := h
  obtain ⟨⟨fa, fl, fn, hd⟩, ns, hns, hl⟩ := S.fd
  have gc : c ≠ g := fun e => by subst e; rw [hd] at hl; cases hl
  refine ⟨cut [g] O H, [g], O, r, out, ⟨fun a o h => (cut_some.mp h).2, S.en, fun p hp => ?_, fun p hp => ?_, fun j es p h1 h2 z => ?_⟩, hm, ?_⟩
  · rw [List.mem_singleton.mp hp]; exact S.mem
  · by_cases e : p = g
    · exact .inl (by rw [e]; exact List.mem_singleton.mpr rfl)
    · right
      unfold cut
      rw [if_pos ⟨hp, fun z => e (List.mem_singleton.mp z)⟩]
  · rw [List.mem_singleton.mp z] at h2
    exact S.fr j es h1 h2
  · have bg : cut [g] O H g = some (.dK (feedK c fa fl fn)) := cut_some.mpr ⟨fun _ => List.mem_singleton.mpr rfl, hd⟩
    have bc : cut [g] O H c = some (.lst (ns.map V.int)) := cut_some.mpr ⟨fun z => absurd z S.nc, hl⟩
    have fin : ∀ H', Ext (cut [g] O H) H' → FeedAt H' g c := fun H' x => ⟨⟨fa, fl, fn, x _ _ bg⟩, ns, hns, x _ _ bc⟩
    have q := P out hΦ
    cases out with
    | nx r' =>
      intro O' σ' H' T
      refine q O' σ' H' ⟨T.en, T.sub g (List.mem_singleton.mpr rfl), fin H' T.ex, fun z => ?_, fun j es h1 h2 => T.nw j es g h1 h2 (List.mem_singleton.mpr rfl)⟩
      rcases T.fr c z with e | e
      · exact gc (List.mem_singleton.mp e)
      · rw [bc] at e; cases e
    | rt d => exact fun v H' x z => q v H' ⟨_, z⟩ (fin H' x)
theorem df_p (h : PS X st (TZ m)) : PS X st (TF (wP m)) := psW h fun D σ H q => lift_pure q
theorem dfs_p (h : PSs X sts (TZ m)) : PSs X sts (TF (wP m)) := pssW h fun D σ H q => lift_pure q
theorem df_cons (h1 : PS X st (TF w1)) (h2 : PSs X sts (TF w2)) : PSs X (st :: sts) (TF (wSeq w1 w2)) := pssW (pss_cons h1 h2) fun D σ H ⟨g, c, O, r, Φ, S, hw, P⟩ =>
  ⟨g, c, O, r, _, S, hw, fun out ho => by
    cases out with
    | nx r1 => exact fun O' σ' H' S' => ⟨g, c, O', r1, Φ, S', ho, P⟩
    | rt d => exact P _ ho⟩
end
/-! expressions that draw -/
abbrev WE := Addr → List Sl → (PyData → Prop) → Prop
def TFE (w : WE) : TE := fun σ H Q => ∃ g c O r Φ, StF g c O r σ H ∧ w g r Φ ∧ ∀ d v H', Φ d → StF g c O r σ H' → Rp (hide O H') v d → Q v H'
def wE (m : ME) : WE := fun _ r Φ => ∃ d, m r = some d ∧ Φ d
def wDraw (m : ME) : WE := fun g r Φ => r[0]? = some (.pt g) ∧ ∃ n, iM m r = some n ∧ 0 < n ∧ n < 1073741824 ∧ ∀ i : Int, 0 ≤ i → i < n → Φ (.int i)
def wPick (m : ME) : WE := fun g r Φ => r[0]? = some (.pt g) ∧ ∃ ds, (m r).bind asSeq = some ds ∧ 0 < ds.length ∧ ds.length < 1073741824 ∧ ∀ d ∈ ds, Φ d
def wAdd (m : ME) (w : WE) : WE := fun g r Φ => ∃ i, iM m r = some i ∧ w g r fun d => ∃ j, d = .int j ∧ Φ (.int (i + j))
def wIf (t : MB) (a b : WE) : WE := fun g r Φ => ∃ x, t r = some x ∧ if x = true then a g r Φ else b g r Φ
def wSet (i : Nat) (w : WE) : WS := fun g r Φ => w g r fun d => Φ (.nx (r.set i (.val d)))
def wUnp (is : List Nat) (w : WE) : WS := fun g r Φ => w g r fun d => ∃ ds r', asTup d = some ds ∧ setAll r is ds = some r' ∧ Φ (.nx r')
def wTupLc (tg : Tg) (mt : MB) (me : ME) (vs : List Nat) (w : WE) : WE := fun g r Φ => w g r fun d => ∃ ds, asSeq d = some ds ∧ ∃ out, lcGo tg mt me (wipeR r vs) ds = some out ∧ out.length ≤ 100000 ∧ Φ (.tuple out)
section
variable {X : Cx} {a b cc : Expr} {m ma mb : ME} {mt : MB} {w wa wb : WE} {pos : Pos} {st : Stmt}
theorem fe_p (h : PE X a (TD m)) : PE X a (TFE (wE m)) := peW h fun σ H Q ⟨g, c, O, r, Φ, S, ⟨d, hm, hΦ⟩, k⟩ => ⟨O, r, d, S.en, hm, fun v H' x q => k d v H' hΦ (S.ext x) q⟩
theorem fe_draw {p : Pos} {k : Nat} (T : FnS X.prog X.w X.K X.mg X.base 1 "_law_draw" ["_law_feed_here", "_law_many"] spDraw) (hr : Room k X.A) (hk : 1 ≤ k) (hg : Gl X "_law_draw") (h0 : X.N[0]? = some ("_law_feed_here" : PySem.Str)) (hv : Vis X.env.scope "_law_feed_here") (ha : PE X a (TD m))
    (n1 : starEach [.Name "_law_feed_here" p, a] X.env = (false, eval (.Name "_law_feed_here" p) X.env) :: starEach [a] X.env := by rfl) (n2 : starEach [a] X.env = (false, eval a X.env) :: starEach [] X.env := by rfl) (hpl : (backTo pos (starEach [a] X.env)).any (·.1) = false := by rfl) {p2 : Pos} :
    PE X (.Call (.Name "_law_draw" p2) [.Name "_law_feed_here" p, a] [] pos) (TFE (wDraw m)) :=
  peW (pe_callS T hr hk hg (pa_cons (pe_var h0 hv) (pa_cons ha pa_nil n2) n1) (he := n1) (hpl := hpl)) fun σ H Q ⟨g, c, O, r, Φ, S, ⟨e0, n, e1, n0, n1, hΦ⟩, k⟩ => by
    obtain ⟨y, y1, y2⟩ := S.en.at e0
    cases y2
    exact ⟨.ref g, y1, O, r, _, S.en, iM_ok e1, fun v H' x q => ⟨g, c, n, by rw [dp_int q]; rfl, n0, n1, S.fd.keepOf x, fun i H2 i0 i1 F K => k _ _ H2 (hΦ i i0 i1) ((S.ext x).keep K F) (.int i)⟩⟩
theorem pick_core {σ : L2.St} {H : Hp} {g c : Addr} {O : List Addr} {r : List Sl} {ds : List PyData} {v : V} {d : PyData} (S : StF g c O r σ H) (q : Rp (hide O H) v d) (e : asSeq d = some ds) : ∃ t xs, v = .ref t ∧ (H t = some (.lst xs) ∨ H t = some (.tup xs)) ∧ RpAll (hide O H) xs ds := by
  rcases asSeq_ok e with e | e
  · subst e
    obtain ⟨p, vs, rfl, h1, h2⟩ := dp_lst q
    exact ⟨p, vs, rfl, .inl (hide_sub _ _ _ _ h1), h2⟩
  · subst e
    obtain ⟨p, vs, rfl, h1, h2⟩ := dp_tup q
    exact ⟨p, vs, rfl, .inr (hide_sub _ _ _ _ h1), h2⟩
theorem fe_pick {p : Pos} {k : Nat} (T : FnS X.prog X.w X.K X.mg X.base 2 "_law_pick" ["_law_feed_here", "_law_things"] spPick) (hr : Room k X.A) (hk : 2 ≤ k) (hg : Gl X "_law_pick") (h0 : X.N[0]? = some ("_law_feed_here" : PySem.Str)) (hv : Vis X.env.scope "_law_feed_here") (ha : PE X a (TD m))
    (n1 : starEach [.Name "_law_feed_here" p, a] X.env = (false, eval (.Name "_law_feed_here" p) X.env) :: starEach [a] X.env := by rfl) (n2 : starEach [a] X.env = (false, eval a X.env) :: starEach [] X.env := by rfl) (hpl : (backTo pos (starEach [a] X.env)).any (·.1) = false := by rfl) {p2 : Pos} :
    PE X (.Call (.Name "_law_pick" p2) [.Name "_law_feed_here" p, a] [] pos) (TFE (wPick m)) :=
  peW (pe_callS T hr hk hg (pa_cons (pe_var h0 hv) (pa_cons ha pa_nil n2) n1) (he := n1) (hpl := hpl)) fun σ H Q ⟨g, c, O, r, Φ, S, ⟨e0, ds, e1, n0, n1, hΦ⟩, k⟩ => by
    obtain ⟨y, y1, y2⟩ := S.en.at e0
    cases y2
    obtain ⟨d0, e2, e3⟩ := bind_some e1
    refine ⟨.ref g, y1, O, r, _, S.en, e2, fun v H' x q => ?_⟩
    have S1 := S.ext x
    obtain ⟨t, xs, rfl, ht, hx⟩ := pick_core S1 q e3
    have hl := dpa_len hx
    refine ⟨g, c, t, xs, rfl, ht, by omega, by omega, S1.fd, fun i y H2 hi F K => ?_⟩
    have hlt := (List.getElem?_eq_some_iff.mp hi).1
    have e5 : ds[i]? = some ds[i] := List.getElem?_eq_getElem (by omega)
    exact k _ _ H2 (hΦ _ (List.mem_of_getElem? e5)) (S1.keep K F) (dp_ext (hide_keep S.mem K) (dpa_at hx e5 hi))
theorem fe_add (ha : PE X a (TD m)) (hb : PE X b (TFE w)) : PE X (.BinOp a .Add b pos) (TFE (wAdd m w)) := peW (pe_op op_add ha hb) fun σ H Q ⟨g, c, O, r, Φ, S, ⟨i, e1, hw⟩, k⟩ =>
  ⟨O, r, _, S.en, iM_ok e1, fun v H1 x q => ⟨g, c, O, r, _, S.ext x, hw, fun d u H2 ⟨j, ed, hΦ⟩ S2 q2 => by
    subst ed
    exact ⟨i, j, dp_int q, dp_int q2, k _ _ H2 hΦ S2 (.int _)⟩⟩⟩
theorem fe_if (hc : PT X cc (TB mt)) (ha : PE X a (TFE wa)) (hb : PE X b (TFE wb)) : PE X (.IfExp cc a b pos) (TFE (wIf mt wa wb)) := peW (pe_ifExp hc ha hb) fun σ H Q ⟨g, c, O, r, Φ, S, ⟨t, e1, hw⟩, k⟩ =>
  ⟨O, r, t, S.en, e1, fun H' x => by
    cases t with
    | true => exact ⟨g, c, O, r, Φ, S.ext x, hw, k⟩
    | false => exact ⟨g, c, O, r, Φ, S.ext x, hw, k⟩⟩
theorem fs_set {i : Nat} {x : PySem.Str} {p2 : Pos} (hN : X.N.Nodup) (hi : X.N[i]? = some x) (hx : Loc X.env.scope x) (he : PE X a (TFE w)) (hs : swapsWith a (some (.Name x p2)) pos.line X.env = pure false := by rfl)
    (hf : X.fn x = true ∨ X.env.scope.names.lookup x = some .local := by first | exact .inl rfl | exact .inr rfl | assumption) : PS X (.Assign [.Name x p2] a pos) (TF (wSet i w)) := psW (ps_set hN hi hx he hs hf) fun D σ H ⟨g, c, O, r, Φ, S, hw, P⟩ =>
  ⟨g, c, O, r, _, S, hw, fun d v H' hΦ S' q => P _ hΦ O _ H' (S'.setVal i q)⟩
theorem setAllF {K : PySem.W.Frag} {g c : Addr} {O : List Addr} {D : Ends} {H : Hp} : ∀ {is : List Nat} {vs : List V} {ds : List PyData} {r r' : List Sl} {σ : L2.St}, StF g c O r σ H → RpAll (hide O H) vs ds → setAll r is ds = some r' → (∀ O σ H, StF g c O r' σ H → D.nx σ H) → gNames is vs σ H D.nx
  | [], _, [], _, _, _, S, h, e, k => by
    cases h
    cases e
    exact ⟨rfl, k _ _ _ S⟩
  | [], _, _ :: _, _, _, _, _, _, e, _ => by cases e
  | i :: is, _, [], _, _, _, _, _, e, _ => by cases e
  | i :: is, _, d :: ds, _, _, _, S, h, e, k => by
    cases h with
    | cons h1 h2 => exact ⟨_, _, rfl, setAllF (K := K) (S.setVal i h1) h2 e k⟩
theorem fs_unp {is : List Nat} (h : PS X st (tAsg (TFE w) (gTup X.K is.length (gNames is)))) : PS X st (TF (wUnp is w)) := psW h fun D σ H ⟨g, c, O, r, Φ, S, hw, P⟩ =>
  ⟨g, c, O, r, _, S, hw, fun d v H' ⟨ds, r', ed, e2, hΦ⟩ S' q => by
    have e3 := asTup_ok ed
    subst e3
    obtain ⟨p, vs, rfl, h1, h2⟩ := dp_tup q
    exact ⟨p, vs, rfl, SqT.of (hide_sub _ _ _ _ h1), by rw [dpa_len h2, setAll_len e2], setAllF (K := X.K) S' h2 e2 (P _ hΦ)⟩⟩
/-- what is walked was drawn -/
def TIF (w : WE) : TI := fun σ H R => ∃ (g c : Addr) (O : List Addr) (r : List Sl) (Φ : List PyData → Prop), StF g c O r σ H ∧ w g r (fun d => ∃ ds, asSeq d = some ds ∧ Φ ds) ∧ ∀ ds J H', Φ ds → StF g c O r σ H' → WalkD O J ds H' → R J H'
theorem fi_seq {tg : Expr} (h : PE X a (TFE w)) : PI X tg a (TIF w) := by
  refine ⟨fun pins s σ H R I q => ?_⟩
  obtain ⟨g, c, O, r, Φ, S, hw, k⟩ := q
  refine thn (h.run pins s σ H (fun v H' => ∃ d ds, asSeq d = some ds ∧ Φ ds ∧ StF g c O r σ H' ∧ Rp (hide O H') v d) I ⟨g, c, O, r, _, S, hw, fun d v H' ⟨ds, e, hΦ⟩ S' q => ⟨d, ds, e, hΦ, S', q⟩⟩) fun v s1 ⟨x, H1, I1, r1, d, ds, e1, hΦ, S1, q1⟩ => ?_
  rcases asSeq_ok e1 with e | e
  · subst e
    obtain ⟨p, vs, rfl, h1, h2⟩ := dp_lst q1
    cases r1
    obtain ⟨its, rv, pl, _⟩ := I1.list (SqL.of (hide_sub _ _ _ _ h1))
    have f := I1.fpOk (Nat.le_refl _) (I1.hok.fresh (Nat.le_refl s1.heap.objs.size))
    exact wpAny_pyIter_list pl.isList ⟨s1.heap.objs.size, [s1.heap.objs.size], _, _, H1, rfl, I1.kept (t' := s1.toks) fun b o e => Heap.get?_push_of_some _ e, turn_list p _, ⟨_, Heap.get?_push_size _ rfl, rfl, rfl⟩, fun b hb => by rw [List.mem_singleton.mp hb]; exact f, k _ _ H1 hΦ S1 (wd_list h1 h2)⟩
  · subst e
    obtain ⟨p, vs, rfl, h1, h2⟩ := dp_tup q1
    cases r1
    obtain ⟨its, rv, pl, _⟩ := I1.tuple (SqT.of (hide_sub _ _ _ _ h1))
    have f := I1.fpOk (Nat.le_refl _) (I1.hok.fresh (Nat.le_refl s1.heap.objs.size))
    exact wpAny_pyIter_tuple (show s1.heap.IsTuple p its.toArray from pl) ⟨s1.heap.objs.size, [s1.heap.objs.size], _, _, H1, rfl, I1.kept (t' := s1.toks) fun b o e => Heap.get?_push_of_some _ e, turn_tuple p _, ⟨_, Heap.get?_push_size _ rfl, rfl, rfl⟩, fun b hb => by rw [List.mem_singleton.mp hb]; exact f, k _ _ H1 hΦ S1 (wd_tup h1 h2)⟩
theorem fe_tupLc {elt tg iter : Expr} {ifs : List Expr} {scope : Scope} {own : List (PySem.Str × Nat)} {p1 p2 p3 : Pos} {t : Tg} {me : ME} (hg0 : Gl X "tuple") (hm0 : X.mg "tuple" = none) (hc : X.calm = true) (hN : X.N.Nodup) (hi : PI X tg iter (TIF w)) (ok : BlkOk X.N X.env.scope scope own)
    (hg : Blk X scope fun Z => PG Z tg (gT X.K t)) (ht : Blk X scope fun Z => PTs Z ifs (TB mt)) (he : Blk X scope fun Z => PE Z elt (TD me)) (hsl : ∀ i ∈ t.sl, i ∈ own.map (·.2))
    (hs : ∀ x, foldedSetIterable iter X.env x = pure x := by intro _; rfl) (na : starEach [.ListComp elt [⟨tg, iter, ifs, 0⟩] scope p1] X.env = (false, eval (.ListComp elt [⟨tg, iter, ifs, 0⟩] scope p1) X.env) :: starEach [] X.env := by rfl) :
    PE X (.Call (.Name "tuple" p2) [.ListComp elt [⟨tg, iter, ifs, 0⟩] scope p1] [] p3) (TFE (wTupLc t mt me (own.map (·.2)) w)) :=
  peW (pe_tupleOf hg0 hm0 (pe_lc hc hN hi ok hg ht he hs) na) fun σ H Q ⟨g, c, O, r, Φ, S, hw, k⟩ => by
    refine ⟨g, c, O, r, fun ds => ∃ out, lcGo t mt me (wipeR r (own.map (·.2))) ds = some out ∧ out.length ≤ 100000 ∧ Φ (.tuple out), S, ?_, fun ds J H1 ⟨out, e2, hz, hΦ⟩ S1 wd D hD => ?_⟩
    · exact hw
    · refine lcD_core (K := X.K) (Q := fun v H1 => kTup X.K v H1 Q) hsl S1.en (Ext.refl H1) e2 hz (fun p ws H2 hp x h q => ?_) wd hD
      refine .inl ⟨p, ws, rfl, SqL.of h, fun n hn => ?_⟩
      have S2 := S1.ext (x.trans (Ext.new (o := HO.tup ws) hn))
      have q2 : RpAll (hide O H2) ws out := dpa_ext (hide_less fun y hy => List.mem_cons_of_mem _ hy) q
      exact k _ _ _ hΦ S2 (new_tup S1.en x hn q2)
end
end Mf
set_option Elab.async false
set_option linter.all false
set_option maxRecDepth 100000
set_option maxHeartbeats 4000000
namespace Mf
open PySem PySem.Spec PyProof.Rows L2 Ly
/-! the least words: a set of rows, sorted -/
def rowD (n : List Int) : PyData := .tuple (n.map PyData.int)
theorem rows_ks {H : Hp} : ∀ {rows : List (List Int)} {vs : List V}, RpAll H vs (rows.map rowD) → ∃ ks : List (Addr × List Int), vs = ks.map (fun p => V.ref p.1) ∧ ks.map (·.2) = rows ∧ ∀ p ∈ ks, H p.1 = some (.tup (p.2.map V.int))
  | [], _, .nil => ⟨[], rfl, rfl, fun _ h => by cases h⟩
  | n :: rows, _, .cons h t => by
    obtain ⟨ks, e1, e2, e3⟩ := rows_ks t
    obtain ⟨a, ws, q1, q2, q3⟩ := dp_tup h
    have q4 := dpa_ints q3
    subst q1 q4
    refine ⟨(a, n) :: ks, by rw [e1]; rfl, by rw [List.map_cons, e2], fun p hp => ?_⟩
    rcases List.mem_cons.mp hp with rfl | hp
    · exact q2
    · exact e3 p hp
theorem ks_rows {H : Hp} : ∀ {ks : List (Addr × List Int)}, (∀ p ∈ ks, H p.1 = some (.tup (p.2.map V.int))) → RpAll H (ks.map fun p => V.ref p.1) ((ks.map (·.2)).map rowD)
  | [], _ => .nil
  | p :: ks, h => .cons (.tup (h p (List.mem_cons_self ..)) (dpa_of_ints p.2)) (ks_rows fun q hq => h q (List.mem_cons_of_mem _ hq))
def n_least_words : List PySem.Str := ["book", "sums", "size", "found", "many", "lot", "row"]
theorem sc_least_words : FnScope n_least_words ["book"] (defScope s_least_words) := ⟨rfl, rfl, rfl, by decide +kernel, rfl, by decide +kernel, by decide +kernel⟩
def lw1 : MS := (mPar 1 2 (sV (mCall m_sums_in (mCons (mVar 0) mNil))) (sV (mIx (mVar 0) (mC (.int 1)))))
def lw2 : MS := (mPar 3 4 (sO (mLst mNil)) (sV (mC (.int 1))))
def lw3 : MS := (mWhile 1000 (mAndB (mCmpB pEq (mLen (mOwn 3)) (mC (.int 0))) (mCmpB pLe (mVar 4) (mVar 2))) (mSeq2 (mFor (mSeq (mCall m_lots_of (mCons (mCall m_all_places (mCons (mVar 2) mNil)) (mCons (mVar 4) mNil)))) (.nm 5) (mExt 3 (mLc (mSeq (mCall m_words_on (mCons (mVar 0) (mCons (mVar 1) (mCons (mVar 5) mNil))))) (.nm 6) mYes (mCall m_spread_row (mCons (mVar 6) (mCons (mVar 5) (mCons (mVar 2) mNil)))) [6]))) (mAug 4 (mC (.int 1)))))
/-- what the loops leave: the rows found -/
def mLW : List PyData → Option (List PyData)
  | [b] => (lw1 [.val b, .no, .no, .no, .no, .no, .no]).bind fun o1 => match o1 with
    | .nx r1 => (lw2 r1).bind fun o2 => match o2 with
      | .nx r2 => (lw3 r2).bind fun o3 => match o3 with
        | .nx r3 => ownD 3 r3
        | .rt _ => none
      | .rt _ => none
    | .rt _ => none
  | _ => none
def spLeast : Sp := fun vs H Q _ => ∃ (O : List Addr) (b : PyData) (rows : List (List Int)) (d : Nat) (B : Int), (∀ p ∈ O, H p ≠ none) ∧ RpAll (hide O H) vs [b] ∧ mLW [b] = some (rows.map rowD) ∧ rows.length < 64 ∧ 1 ≤ d ∧ (∀ n ∈ rows, n.length = d ∧ TS.Bd B n) ∧
  ∀ v H' (L : List (List Int)), Ext H H' → (∀ n ∈ L, n ∈ rows) → (∀ n ∈ rows, n ∈ L) → Rp (hide O H') v (.tuple (L.map rowD)) → Q v H'
section
variable {P : Program} {w : World} {K : PySem.W.Frag} {mg : PySem.Str → Option Value} {base : Heap}
theorem ok_least (T : Tx K mg) : FnS P w K mg base 6 "least_words" ["book"] spLeast :=
  T.mkS 49 d_least_words sc_least_words (fun _ _ _ _ _ _ us hl => match us, hl with | [_], _ => rfl) (fun vs H Q E ⟨O, b, rows, d, B, _, h, _⟩ => dpa_len h) fun fa cdv A outer s H E vs Q hr h => by
    have hu := hr.units
    refine ⟨_, pss_cons (t := TZ lw1) (ds_vv fT_ok (ps_prT rfl (pg_name (i := 1) sc_least_words.nd rfl (by first | exact Or.inl rfl | exact Or.inr rfl)) (pg_name (i := 2) sc_least_words.nd rfl (by first | exact Or.inl rfl | exact Or.inr rfl)) (de_call (ok_sums_in T) hr (by decide) (by rfl) (da_cons (de_var 0) da_nil)) (de_ix (de_w (de_var 0)) de_int))) (pss_cons (t := TZ lw2) (ds_ov fL_ok (ps_prL rfl sc_least_words.nd (i := 3) (j := 4) rfl rfl (by decide) rfl rfl (dn_lst da_nil) de_int)) (pss_cons (t := TZ lw3) (ds_while 1000 PassesOwn.never (dt_q (dq_and (dt_eq (de_len (by rfl) (T.free 82) (dw_own 3)) de_int) (dq_and1 (dt_le (de_var 4) (de_var 2))))) (dz_cons (ds_for PassesOwn.never rfl (di_seq (de_call (ok_lots_of T) hr (by decide) (by rfl) (da_cons (de_call (ok_all_places T) hr (by decide) (by rfl) (da_cons (de_var 2) da_nil)) (da_cons (de_var 4) da_nil)))) (pg_name (i := 5) sc_least_words.nd rfl (by first | exact Or.inl rfl | exact Or.inr rfl)) (dz_one (ds_ext (i := 3) (ps_expr (pe_bm PySem.F.plainAttrs_list PySem.F.slot_list_extend PySem.F.type_list_extend mt_extend (pv 3) (pa_cons (dn_lc (own := [("row", 6)]) rfl sc_least_words.nd (di_seq (de_call (ok_words_on T) hr (by decide) (by rfl) (da_cons (de_var 0) (da_cons (de_var 1) (da_cons (de_var 5) da_nil))))) (blkOk_by (N := n_least_words) (sc := defScope s_least_words) (by decide +kernel)) (fun _ _ _ _ _ => (pg_name (i := 6) sc_least_words.nd rfl (by first | exact Or.inl rfl | exact Or.inr rfl))) (fun _ _ _ _ _ => dp_nil) (fun _ _ _ _ _ => (de_call (ok_spread_row T) hr (by decide) (by rfl) (da_cons (de_var 6) (da_cons (de_var 5) (da_cons (de_var 2) da_nil))))) (by decide)) pa_nil)))))) (dz_one (ds_aug (i := 4) sc_least_words.nd rfl (by first | exact Or.inl rfl | exact Or.inr rfl) de_int))))
      (pss_one (ps_ret (pe_tupleOf (by rfl) (T.free 81) (pe_callB (cr_sortedT rfl) (by rfl) (T.free 89) (by decide +kernel) (pa_cons (pe_callTy (cr_setOfT rfl hu) (by rfl) (T.free 90) (by decide +kernel) (pa_cons (dw_own 3) pa_nil)) pa_nil))))))), ?_⟩
    obtain ⟨O, b, rows, d, B, dom, hR, hm, hlen, hd, hB, hq⟩ := h
    cases hR with
    | cons hv t =>
    cases t
    rename_i v
    obtain ⟨o1, e1, hm⟩ := bind_some hm
    cases o1 with
    | rt _ => cases hm
    | nx r1 =>
    obtain ⟨o2, e2, hm⟩ := bind_some hm
    cases o2 with
    | rt _ => cases hm
    | nx r2 =>
    obtain ⟨o3, e3, hm⟩ := bind_some hm
    cases o3 with
    | rt _ => cases hm
    | nx r3 =>
    have E0 : En O [.val b, .no, .no, .no, .no, .no, .no] [some v, none, none, none, none, none, none] H := start_ok (ds := [b]) dom (.cons hv .nil) 6
    have S0 : St2 H O O [.val b, .no, .no, .no, .no, .no, .no] [some v, none, none, none, none, none, none] H := ⟨Ext.refl H, E0, fun _ h => h, fun _ h => .inl h, fun j es p h1 => by
      rcases j with _ | _ | _ | _ | _ | _ | _ | j <;> first | (cases h1; done) | (simp at h1; done)⟩
    refine ⟨H, O, O, _, .nx r1, S0, e1, fun O1 σ1 H1 S1 => ⟨H, O, O1, r1, .nx r2, S1, e2, fun O2 σ2 H2 S2 => ⟨H, O, O2, r2, .nx r3, S2, e3, fun O3 σ3 H3 S3 => ?_⟩⟩⟩
    refine ⟨O3, r3, .list (rows.map rowD), S3.en, by unfold mOwn; rw [ownD_ok hm], fun u H4 x4 hw => ?_⟩
    obtain ⟨p, us, rfl, h1, h2⟩ := hw.list
    obtain ⟨ks, rfl, ek, hk⟩ := rows_ks h2
    refine ⟨p, ks, rfl, SqL.of h1, fun q hqk => SqT.of (hide_sub _ _ _ _ (hk q hqk)), ?_, fun a L ha hsub hall => ?_⟩
    · have := congrArg List.length ek
      rw [List.length_map] at this
      omega
    have x5 : Ext H4 (upd H4 a (SetTO P w a L)) := Ext.new ha
    have mem : ∀ q ∈ L, q.2 ∈ rows := fun q hqL => by rw [← ek]; exact List.mem_map_of_mem (hsub q hqL)
    refine ⟨a, L, d, B, rfl, upd_same, fun q hqL => SqT.of (x5 _ _ (hide_sub _ _ _ _ (hk q (hsub q hqL)))), hd, fun q hqL => hB _ (mem q hqL), fun L' p' perm nd few pw hp' => ?_⟩
    refine .inl ⟨p', _, rfl, SqL.of upd_same, fun z hz => ?_⟩
    have x6 := Ext.new (o := HO.lst (L'.map fun q => V.ref q.1)) hp'
    have x7 := Ext.new (o := HO.tup (L'.map fun q => V.ref q.1)) hz
    have x := x5.trans (x6.trans x7)
    have xH := (S3.ex.trans x4).trans x
    refine hq _ _ (L'.map (·.2)) xH (fun n hn => ?_) (fun n hn => ?_) (.tup (hide_some.mpr ⟨fun m => ?_, upd_same⟩) ?_)
    · obtain ⟨q, hq1, rfl⟩ := List.mem_map.mp hn
      exact mem q (perm.mem_iff.mp hq1)
    · rw [← ek] at hn
      obtain ⟨q, hq1, rfl⟩ := List.mem_map.mp hn
      obtain ⟨q', hq2, e⟩ := List.mem_map.mp (hall q hq1)
      rw [← e]
      exact List.mem_map_of_mem (perm.mem_iff.mpr hq2)
    · exact dom z m ((S3.ex.trans (x4.trans (x5.trans x6))).none_of hz)
    · refine ks_rows fun q hq1 => ?_
      have h5 := hk q (hsub q (perm.mem_iff.mp hq1))
      exact (hide_less S3.sub).trans (hide_ext x) _ _ h5
end
end Mf
set_option Elab.async false
set_option linter.all false
set_option maxRecDepth 100000
set_option maxHeartbeats 4000000
namespace Mf
open PySem PySem.Spec PyProof.Rows L2 Ly
def wt (n : List Int) : Nat := (n.filter fun m => decide (0 < m)).length
def allRows : List PyData → Option (List (List Int))
  | [] => some []
  | d :: ds => (asTup d).bind fun es => (allInt es).bind fun n => (allRows ds).map fun ns => n :: ns
theorem allRows_ok : ∀ {ds : List PyData} {ns : List (List Int)}, allRows ds = some ns → ds = ns.map rowD
  | [], _, h => by cases h; rfl
  | d :: ds, _, h => by
    obtain ⟨es, e1, h⟩ := bind_some h
    obtain ⟨n, e2, h⟩ := bind_some h
    obtain ⟨ns, e3, h⟩ := map_some h
    subst h
    rw [asTup_ok e1, ints_ok e2, allRows_ok e3]
    rfl
def okRow (d : Nat) (n : List Int) : Bool := decide (n.length = d) && n.all fun m => decide (0 ≤ m ∧ m < 1073741824)
def m_apart_in : List PyData → Option PyData
  | [b] => (mLW [b]).bind fun found => (allRows found).bind fun rows => match rows with
    | [] => some .none
    | n :: rest => if decide (rows.length < 64) && (decide (1 ≤ n.length) && (decide (n.length ≤ 100000) && rows.all fun l => okRow n.length l && decide (wt l = wt n))) then some (.int (wt n)) else none
  | _ => none
def n_apart_in : List PySem.Str := ["book", "found", "sign"]
theorem sc_apart_in : FnScope n_apart_in ["book"] (defScope s_apart_in) := ⟨rfl, rfl, rfl, by decide +kernel, rfl, by decide +kernel, by decide +kernel⟩
def b_apart2 : MS := (mRet (mIf (mCmpB pGt (mLen (mVar 1)) (mC (.int 0))) (mLen (lM (mLc (mSeq (mIx (mVar 1) (mC (.int 0)))) (.nm 2) (mCmpB pGt (mVar 2) (mC (.int 0))) (mVar 2) [2]))) (mC .none)))
theorem lc_wt (x y z : Sl) : ∀ n : List Int, lcGo (.nm 2) (mCmpB pGt (mVar 2) (mC (.int 0))) (mVar 2) [x, y, z] (n.map PyData.int) = some ((n.filter fun m => decide (0 < m)).map PyData.int)
  | [] => rfl
  | m :: n => by
    have ih := lc_wt x y z n
    have e : lcGo (.nm 2) (mCmpB pGt (mVar 2) (mC (.int 0))) (mVar 2) [x, y, z] ((m :: n).map PyData.int) = (if decide (0 < m) then (lcGo (.nm 2) (mCmpB pGt (mVar 2) (mC (.int 0))) (mVar 2) [x, y, z] (n.map PyData.int)).map fun es => PyData.int m :: es else lcGo (.nm 2) (mCmpB pGt (mVar 2) (mC (.int 0))) (mVar 2) [x, y, z] (n.map PyData.int)) := rfl
    rw [e, ih]
    by_cases h : decide (0 < m) = true
    · rw [if_pos h, List.filter_cons_of_pos (by simpa using h)]; rfl
    · rw [if_neg h, List.filter_cons_of_neg (by simpa using h)]
theorem apart2_nil (b : PyData) : b_apart2 [.val b, .val (.tuple []), .no] = some (.rt .none) := by rfl
theorem apart2_cons (b : PyData) (n : List Int) (L : List (List Int)) (h : n.length ≤ 100000) : b_apart2 [.val b, .val (.tuple ((n :: L).map rowD)), .no] = some (.rt (.int (wt n))) := by
  have e : b_apart2 [.val b, .val (.tuple ((n :: L).map rowD)), .no] = (((lcGo (.nm 2) (mCmpB pGt (mVar 2) (mC (.int 0))) (mVar 2) [.val b, .val (.tuple ((n :: L).map rowD)), .no] (n.map PyData.int)).bind fun out => if okSz out then some out else none).map fun ds => Out.rt (.int ds.length)) := by
    have e0 : pGt (((n :: L).map rowD).length : Int) 0 = true := by simp [pGt]
    have e1 : b_apart2 [.val b, .val (.tuple ((n :: L).map rowD)), .no] = ((if pGt (((n :: L).map rowD).length : Int) 0 = true then (mLen (lM (mLc (mSeq (mIx (mVar 1) (mC (.int 0)))) (.nm 2) (mCmpB pGt (mVar 2) (mC (.int 0))) (mVar 2) [2]))) [.val b, .val (.tuple ((n :: L).map rowD)), .no] else some .none).map Out.rt) := rfl
    rw [e1, if_pos e0]
    have e2 : mLc (mSeq (mIx (mVar 1) (mC (.int 0)))) (.nm 2) (mCmpB pGt (mVar 2) (mC (.int 0))) (mVar 2) [2] [.val b, .val (.tuple ((n :: L).map rowD)), .no] = ((lcGo (.nm 2) (mCmpB pGt (mVar 2) (mC (.int 0))) (mVar 2) [.val b, .val (.tuple ((n :: L).map rowD)), .no] (n.map PyData.int)).bind fun out => if okSz out then some out else none) := by
      have e3 : mSeq (mIx (mVar 1) (mC (.int 0))) [.val b, .val (.tuple ((n :: L).map rowD)), .no] = some (n.map PyData.int) := by
        have e4 : mIx (mVar 1) (mC (.int 0)) [.val b, .val (.tuple ((n :: L).map rowD)), .no] = atI ((n :: L).map rowD) 0 := rfl
        have e5 : atI ((n :: L).map rowD) 0 = some (rowD n) := by
          unfold atI ixN
          rw [if_pos (Int.le_refl 0), if_pos (by simp)]
          rfl
        unfold mSeq
        rw [e4, e5]
        rfl
      unfold mLc
      rw [e3]
      rfl
    unfold mLen lM
    rw [e2]
    generalize ((lcGo (.nm 2) (mCmpB pGt (mVar 2) (mC (.int 0))) (mVar 2) [.val b, .val (.tuple ((n :: L).map rowD)), .no] (n.map PyData.int)).bind fun out => if okSz out then some out else none) = q
    cases q <;> rfl
  rw [e, lc_wt]
  have hz : okSz ((n.filter fun m => decide (0 < m)).map PyData.int) = true := decide_eq_true (by
    rw [List.length_map]
    exact Nat.le_trans (List.length_filter_le _ _) h)
  show ((if okSz ((n.filter fun m => decide (0 < m)).map PyData.int) = true then some ((n.filter fun m => decide (0 < m)).map PyData.int) else none).map fun ds => Out.rt (.int ds.length)) = _
  rw [if_pos hz]
  show some (Out.rt (.int (((n.filter fun m => decide (0 < m)).map PyData.int).length : Nat))) = _
  rw [List.length_map]
  rfl
section
variable {P : Program} {w : World} {K : PySem.W.Frag} {mg : PySem.Str → Option Value} {base : Heap}
theorem ok_apart_in_ (T : Tx K mg) : FnS P w K mg base 7 "apart_in" ["book"] (spD m_apart_in) :=
  T.mkS 50 d_apart_in sc_apart_in (fun _ _ _ _ _ _ us hl => match us, hl with | [_], _ => rfl) (fun vs H Q E ⟨O, ds, d, _, h, hm, _⟩ => by
    match ds, hm with
    | [b], _ => exact dpa_len h) fun fa cdv A outer s H E vs Q hr h => by
    refine ⟨_, pss_cons (ps_set (i := 1) sc_apart_in.nd rfl (by first | exact Or.inl rfl | exact Or.inr rfl) (pe_callS (ok_least T) hr (by decide) (by rfl) (pa_cons (pv 0) pa_nil)))
      (pss_one (t := TZ b_apart2) (ds_ret (dr_e (de_if (dt_gt (de_len (by rfl) (T.free 82) (de_w (de_var 1))) de_int) (de_len (by rfl) (T.free 82) (de_w (dn_w (dn_lc (own := [("sign", 2)]) rfl sc_apart_in.nd (di_seq (de_ix (de_w (de_var 1)) de_int)) (blkOk_by (N := n_apart_in) (sc := defScope s_apart_in) (by decide +kernel)) (fun _ _ _ _ _ => (pg_name (i := 2) sc_apart_in.nd rfl (by first | exact Or.inl rfl | exact Or.inr rfl))) (fun _ _ _ _ _ => (dp_one (dt_gt (de_var 2) de_int))) (fun _ _ _ _ _ => (de_var 2)) (by decide))))) de_non)))), ?_⟩
    obtain ⟨O, ds, res, dom, hR, hm, hq⟩ := h
    match ds, hm, hR with
    | [b], hm, .cons (v := v) hv .nil =>
    obtain ⟨found, e1, hm2⟩ := bind_some hm
    obtain ⟨rows, e2, hm3⟩ := bind_some hm2
    clear hm hm2
    have e3 := allRows_ok e2
    subst e3
    have fin : ∀ u H' (L : List (List Int)), Ext H H' → Rp (hide O H') u (.tuple (L.map rowD)) → b_apart2 [.val b, .val (.tuple (L.map rowD)), .no] = some (.rt res) → TZ b_apart2 { nx := fun _ H' => Q .non H', rt := Q } (([some v, none, none] : L2.St).set 1 (some u)) H' := fun u H' L x hu he => by
      have E0 : En O [.val b, .no, .no] [some v, none, none] H := start_ok (ds := [b]) dom (.cons hv .nil) 2
      have E1 := (E0.ext x).setVal 1 hu
      refine ⟨H, O, O, _, .rt res, ⟨x, E1, fun _ h => h, fun _ h => .inl h, fun j es p h1 => ?_⟩, he, fun v' H2 x2 q2 => hq v' H2 x2 q2⟩
      rcases j with _ | _ | _ | j <;> first | (cases h1; done) | (simp at h1; done)
    cases rows with
    | nil =>
      cases hm3
      refine ⟨v, rfl, O, b, [], 1, 1, dom, .cons hv .nil, e1, by decide, by decide, (fun n hn => by cases hn), fun u H' L x sub all hu => ?_⟩
      have : L = [] := by
        cases L with
        | nil => rfl
        | cons a L => cases sub a (List.mem_cons_self ..)
      subst this
      exact fin u H' [] x hu (apart2_nil b)
    | cons n rest =>
      obtain ⟨c, er⟩ := iteSome hm3
      simp only [Bool.and_eq_true, decide_eq_true_eq, List.all_eq_true] at c
      obtain ⟨c1, c2, c3, c4⟩ := c
      subst er
      refine ⟨v, rfl, O, b, n :: rest, n.length, 1073741824, dom, .cons hv .nil, e1, c1, c2, fun l hl => ?_, fun u H' L x sub all hu => ?_⟩
      · have q := (c4 l hl).1
        unfold okRow at q
        simp only [Bool.and_eq_true, decide_eq_true_eq, List.all_eq_true] at q
        exact ⟨q.1, fun m hm => q.2 m hm⟩
      · cases L with
        | nil => exact absurd (all n (List.mem_cons_self ..)) (by simp)
        | cons l L =>
          have q := c4 l (sub l (List.mem_cons_self ..))
          have q1 := q.1
          unfold okRow at q1
          simp only [Bool.and_eq_true, decide_eq_true_eq] at q1
          refine fin u H' (l :: L) x hu ?_
          rw [← q.2]
          exact apart2_cons b l L (by rw [q1.1]; exact c3)
theorem ok_apart_in (T : Tx K mg) : Fn P w K mg base 7 "apart_in" ["book"] [] m_apart_in := by
  obtain ⟨ad, fd, h1, h2, h3, h4⟩ := (ok_apart_in_ (P := P) (w := w) (base := base) T).ex
  exact ⟨ad, fd, [], h1, h2, h3, h4, .nil⟩
end
end Mf
set_option Elab.async false
set_option linter.all false
set_option maxRecDepth 100000
set_option maxHeartbeats 4000000
namespace Mf
open PySem PySem.Spec PyProof.Rows L2 Ly
def n_apart_of : List PySem.Str := ["book"]
theorem sc_apart_of : FnScope n_apart_of ["book"] (defScope s_apart_of) := ⟨rfl, rfl, rfl, by decide +kernel, rfl, by decide +kernel, by decide +kernel⟩
def b_apart_of : MS := (mSeq2 (mDrop (mCall (fun ds => m_want_book (ds ++ [.str "book"])) (mCons (mVar 0) mNil))) (mRet (mCall m_apart_in (mCons (mVar 0) mNil))))
def m_apart_of : List PyData → Option PyData := mFn 1 1 b_apart_of
theorem ok_apart_of {P : Program} {w : World} {K : PySem.W.Frag} {mg : PySem.Str → Option Value} {base : Heap} (T : Tx K mg) : Fn P w K mg base 9 "apart_of" ["book"] [] m_apart_of :=
  T.mk_ 51 d_apart_of sc_apart_of (fun _ _ _ _ _ _ us hl => match us, hl with | [_], _ => rfl) fun f cdv A outer s H E hr =>
    (dz_cons (ds_expr (de_callX (dd := [.str "book"]) (ok_want_book T) (fun _ => .cons (by constructor) .nil) hr (by decide) (by rfl) (da_cons (de_var 0) da_nil))) (dz_one (ds_ret (dr_e (de_call (ok_apart_in T) hr (by decide) (by rfl) (da_cons (de_var 0) da_nil))))))
def n__law_far_enough : List PySem.Str := ["_law_book", "_law_exponents", "_law_apart_here"]
theorem sc__law_far_enough : FnScope n__law_far_enough ["_law_book", "_law_exponents"] (defScope s__law_far_enough) := ⟨rfl, rfl, rfl, by decide +kernel, rfl, by decide +kernel, by decide +kernel⟩
def b__law_far_enough : MS := (mSeq2 (mIfS (mAndB (mCmpB pGt (mIx (mVar 0) (mC (.int 1))) (mC (.int 11))) (mCmpB pLt (mLen (mVar 1)) (mC (.int 5)))) (mRet (mC (.bool true))) mSkip) (mSeq2 (mSet 2 (mCall m_apart_of (mCons (mVar 0) mNil))) (mRet (mAnd (bE (mCmpB pEq (mVar 2) (mCall m__law_apart (mCons (mVar 0) mNil)))) (bE (mCmpB pGe (mVar 2) (mBin gSub (mIx (mVar 0) (mC (.int 1))) (mIx (mVar 1) (mNeg (mC (.int 1)))))))))))
def m__law_far_enough : List PyData → Option PyData := mFn 2 3 b__law_far_enough
theorem ok__law_far_enough {P : Program} {w : World} {K : PySem.W.Frag} {mg : PySem.Str → Option Value} {base : Heap} (T : Tx K mg) : Fn P w K mg base 10 "_law_far_enough" ["_law_book", "_law_exponents"] [] m__law_far_enough :=
  T.mk_ 71 d__law_far_enough sc__law_far_enough (fun _ _ _ _ _ _ us hl => match us, hl with | [_, _], _ => rfl) fun f cdv A outer s H E hr =>
    (dz_cons (ds_if (dt_q (dq_and (dt_gt (de_ix (de_w (de_var 0)) de_int) de_int) (dq_and1 (dt_lt (de_len (by rfl) (T.free 82) (de_w (de_var 1))) de_int)))) (dz_one (ds_ret (dr_e de_bl))) dz_nil) (dz_cons (ds_set (i := 2) sc__law_far_enough.nd rfl (by first | exact Or.inl rfl | exact Or.inr rfl) (de_call (ok_apart_of T) hr (by decide) (by rfl) (da_cons (de_var 0) da_nil))) (dz_one (ds_ret (dr_e (de_and (de_eq (de_var 2) (de_call (ok__law_apart T) hr (by decide) (by rfl) (da_cons (de_var 0) da_nil))) (de_one (de_ge (de_var 2) (de_sub (de_ix (de_w (de_var 0)) de_int) (de_ix (de_w (de_var 1)) (de_neg de_int)))))))))))
end Mf
set_option Elab.async false
set_option linter.all false
set_option maxRecDepth 100000
set_option maxHeartbeats 4000000
namespace Mf
open PySem PySem.Spec PyProof.Rows L2 Ly
def n__law_nested_right : List PySem.Str := ["_law_feed_here", "_law_some", "_law_prime", "_law_few", "_law_wide", "_law_many", "_law_inner", "_law_fit", "_law_least", "_law_told", "_law_book", "_law_numbers", "_law_rows", "_law_small", "_law_great", "_law_group", "_law_lot", "_law_e", "_law_j", "_law_k"]
theorem sc__law_nested_right : FnScope n__law_nested_right ["_law_feed_here"] (defScope s__law_nested_right) := ⟨rfl, rfl, rfl, by decide +kernel, rfl, by decide +kernel, by decide +kernel⟩
def v0__law_nested_right : MS := (mSet 1 (lM (mLst (mCons (mTup (mCons (mC (.int 7)) (mCons (mC (.int 1)) (mCons (mC (.int 6)) (mCons (mC (.int 1)) (mCons (mC (.int 0)) mNil)))))) (mCons (mTup (mCons (mC (.int 13)) (mCons (mC (.int 2)) (mCons (mC (.int 6)) (mCons (mC (.int 1)) (mCons (mC (.int 0)) mNil)))))) (mCons (mTup (mCons (mC (.int 19)) (mCons (mC (.int 2)) (mCons (mC (.int 6)) (mCons (mC (.int 1)) (mCons (mC (.int 0)) mNil)))))) (mCons (mTup (mCons (mC (.int 5)) (mCons (mC (.int 1)) (mCons (mC (.int 4)) (mCons (mC (.int 1)) (mCons (mC (.int 0)) mNil)))))) (mCons (mTup (mCons (mC (.int 17)) (mCons (mC (.int 1)) (mCons (mC (.int 4)) (mCons (mC (.int 2)) (mCons (mC (.int 0)) mNil)))))) (mCons (mTup (mCons (mC (.int 13)) (mCons (mC (.int 1)) (mCons (mC (.int 6)) (mCons (mC (.int 2)) (mCons (mC (.int 3)) mNil)))))) mNil)))))))))
def v1__law_nested_right : MS := (mSet 1 (lM (mCatL (mVar 1) (lM (mLst (mCons (mTup (mCons (mC (.int 13)) (mCons (mC (.int 1)) (mCons (mC (.int 6)) (mCons (mC (.int 2)) (mCons (mC (.int 4)) mNil)))))) (mCons (mTup (mCons (mC (.int 31)) (mCons (mC (.int 2)) (mCons (mC (.int 6)) (mCons (mC (.int 2)) (mCons (mC (.int 4)) mNil)))))) (mCons (mTup (mCons (mC (.int 37)) (mCons (mC (.int 1)) (mCons (mC (.int 6)) (mCons (mC (.int 2)) (mCons (mC (.int 3)) mNil)))))) (mCons (mTup (mCons (mC (.int 29)) (mCons (mC (.int 3)) (mCons (mC (.int 4)) (mCons (mC (.int 2)) (mCons (mC (.int 0)) mNil)))))) mNil)))))))))
def v2__law_nested_right : WS := (wUnp [2, 3, 4, 5, 6] (wPick (mVar 1)))
def v3__law_nested_right : WS := (wSet 6 (wIf (mCmpB pGt (mVar 6) (mC (.int 0))) (wE (mVar 6)) (wAdd (mC (.int 1)) (wDraw (mVar 4)))))
def v4__law_nested_right : MS := (mSet 7 (lM (mLc (mRg1 (mBin gMul (mVar 4) (mVar 5))) (.nm 17) (mAndB (mCmpB pNe (mBin gMod (mVar 17) (mBin gAdd (mVar 3) (mC (.int 1)))) (mVar 3)) (mCmpB pLt (mBin gMod (mVar 17) (mVar 4)) (mVar 6))) (mVar 17) [17])))
def v5__law_nested_right : MS := (mSet 8 (mIf (mCmpB pGt (mBin gMul (mVar 4) (mVar 5)) (mC (.int 11))) (mC (.int 3)) (mC (.int 1))))
def v6__law_nested_right : WS := (wSet 9 (wAdd (mVar 8) (wDraw (mBin gAdd (mBin gSub (mLen (mVar 7)) (mVar 8)) (mC (.int 1))))))
def v7__law_nested_right : MS := (mPar 10 11 (sV (mCall m_nested_book (mCons (mVar 2) (mCons (mVar 3) (mCons (mVar 4) (mCons (mVar 6) (mCons (mVar 5) (mCons (mVar 9) mNil)))))))) (sV (mCall m__law_class_numbers (mCons (mVar 2) (mCons (mVar 4) (mCons (mVar 5) mNil))))))
def v8__law_nested_right : MS := (mSet 12 (mCall m__law_reduced (mCons (mVar 2) (mCons (mCall m__law_worths (mCons (mVar 2) (mCons (mVar 11) (mCons (lM (mTakeL (mVar 7) (mVar 9))) mNil)))) mNil))))
def v9__law_nested_right : MS := (mIfS (mOrB (mEqB true (mCall m__law_words (mCons (mVar 10) mNil)) (mVar 12)) (mCmpB pNe (mIx (mVar 10) (mC (.int 1))) (mBin gMul (mVar 4) (mVar 5)))) (mRet (mC (.bool false))) mSkip)
def v10__law_nested_right : MS := (mUnp [13, 14] (mCall m_nested_groups (mCons (mVar 2) (mCons (mVar 3) (mCons (mVar 4) (mCons (mVar 5) mNil))))))
def v11__law_nested_right : MS := (mIfS (mEqB true (mVar 14) (mTupOf (lM (mLc (mRg1 (mVar 5)) (.nm 18) mYes (fun r => (mRg2 (mBin gMul (mVar 18) (mVar 4)) (mBin gMul (mBin gAdd (mVar 18) (mC (.int 1))) (mVar 4)) r).map PyData.tuple) [18])))) (mRet (mC (.bool false))) mSkip)
def v12__law_nested_right : WS := (wSet 15 (wPick (lM (mLstOf (mVar 14)))))
def v13__law_nested_right : WS := (wSet 16 (wTupLc (.nm 19) mYes (mIx (mVar 15) (mVar 19)) [19] (wPick (mCall m__law_lots (mCons (mVar 4) (mCons (mVar 6) mNil))))))
def v14__law_nested_right : MS := (mIfS (mCmpB pNe (mCall m__law_told_on (mCons (mVar 10) (mCons (mVar 16) mNil))) (mCall m__law_told_on (mCons (mVar 10) (mCons (mVar 15) mNil)))) (mRet (mC (.bool false))) mSkip)
def v15__law_nested_right : MS := (mRet (mAnd (mCall m__law_small_right (mCons (mVar 10) (mCons (mVar 13) (mCons (mVar 3) mNil)))) (mCall m__law_far_enough (mCons (mVar 10) (mCons (lM (mTakeL (mVar 7) (mVar 9))) mNil)))))
def w__law_nested_right : WS := (wSeq (wP v0__law_nested_right) (wSeq (wP v1__law_nested_right) (wSeq v2__law_nested_right (wSeq v3__law_nested_right (wSeq (wP v4__law_nested_right) (wSeq (wP v5__law_nested_right) (wSeq v6__law_nested_right (wSeq (wP v7__law_nested_right) (wSeq (wP v8__law_nested_right) (wSeq (wP v9__law_nested_right) (wSeq (wP v10__law_nested_right) (wSeq (wP v11__law_nested_right) (wSeq v12__law_nested_right (wSeq v13__law_nested_right (wSeq (wP v14__law_nested_right) (wP v15__law_nested_right))))))))))))))))
theorem walk__law_nested_right {P : Program} {w : World} {K : PySem.W.Frag} {mg : PySem.Str → Option Value} {base : Heap} (T : Tx K mg) (f : Addr) (cdv : Value) (A : Around) (outer : List Env) (s : Shared) (H : Hp) (E : XK) (hr : Room 10 (A.deeper (envOfC d__law_nested_right.qual d__law_nested_right.scope s.heap.objs.size f cdv))) :
    PSs (cxOf CX0 P w K mg base n__law_nested_right d__law_nested_right.qual d__law_nested_right.scope f cdv A outer s H E).nox d__law_nested_right.body (TF w__law_nested_right) :=
    (df_cons (w1 := (wP v0__law_nested_right)) (df_p (ds_set (i := 1) sc__law_nested_right.nd rfl (by first | exact Or.inl rfl | exact Or.inr rfl) (dn_w (dn_lst (da_cons (de_tup (da_cons de_int (da_cons de_int (da_cons de_int (da_cons de_int (da_cons de_int da_nil)))))) (da_cons (de_tup (da_cons de_int (da_cons de_int (da_cons de_int (da_cons de_int (da_cons de_int da_nil)))))) (da_cons (de_tup (da_cons de_int (da_cons de_int (da_cons de_int (da_cons de_int (da_cons de_int da_nil)))))) (da_cons (de_tup (da_cons de_int (da_cons de_int (da_cons de_int (da_cons de_int (da_cons de_int da_nil)))))) (da_cons (de_tup (da_cons de_int (da_cons de_int (da_cons de_int (da_cons de_int (da_cons de_int da_nil)))))) (da_cons (de_tup (da_cons de_int (da_cons de_int (da_cons de_int (da_cons de_int (da_cons de_int da_nil)))))) da_nil))))))))))
      (df_cons (w1 := (wP v1__law_nested_right)) (df_p (ds_set (i := 1) sc__law_nested_right.nd rfl (by first | exact Or.inl rfl | exact Or.inr rfl) (dn_w (dn_cat (de_var 1) (dn_w (dn_lst (da_cons (de_tup (da_cons de_int (da_cons de_int (da_cons de_int (da_cons de_int (da_cons de_int da_nil)))))) (da_cons (de_tup (da_cons de_int (da_cons de_int (da_cons de_int (da_cons de_int (da_cons de_int da_nil)))))) (da_cons (de_tup (da_cons de_int (da_cons de_int (da_cons de_int (da_cons de_int (da_cons de_int da_nil)))))) (da_cons (de_tup (da_cons de_int (da_cons de_int (da_cons de_int (da_cons de_int (da_cons de_int da_nil)))))) da_nil))))))))))
      (df_cons (w1 := v2__law_nested_right) (fs_unp (is := [2, 3, 4, 5, 6]) (ps_asg (fe_pick (ok_pick T) hr (by decide) (by rfl) rfl (by first | exact Or.inl rfl | exact Or.inr (Or.inl rfl) | exact Or.inr (Or.inr rfl)) (de_var 1)) (pg_tup rfl (pgs_cons (pg_name (i := 2) sc__law_nested_right.nd rfl (by first | exact Or.inl rfl | exact Or.inr rfl)) (pgs_cons (pg_name (i := 3) sc__law_nested_right.nd rfl (by first | exact Or.inl rfl | exact Or.inr rfl)) (pgs_cons (pg_name (i := 4) sc__law_nested_right.nd rfl (by first | exact Or.inl rfl | exact Or.inr rfl)) (pgs_cons (pg_name (i := 5) sc__law_nested_right.nd rfl (by first | exact Or.inl rfl | exact Or.inr rfl)) (pgs_cons (pg_name (i := 6) sc__law_nested_right.nd rfl (by first | exact Or.inl rfl | exact Or.inr rfl)) pgs_nil))))))))
      (df_cons (w1 := v3__law_nested_right) (fs_set (i := 6) sc__law_nested_right.nd rfl (by first | exact Or.inl rfl | exact Or.inr rfl) (fe_if (dt_gt (de_var 6) de_int) (fe_p (de_var 6)) (fe_add de_int (fe_draw (ok_draw T) hr (by decide) (by rfl) rfl (by first | exact Or.inl rfl | exact Or.inr (Or.inl rfl) | exact Or.inr (Or.inr rfl)) (de_var 4)))))
      (df_cons (w1 := (wP v4__law_nested_right)) (df_p (ds_V (dx_setLc (i := 7) (own := [("_law_e", 17)]) rfl sc__law_nested_right.nd rfl rfl (sw_true rfl rfl rfl (by decide +kernel)) (di_range1 (by rfl) (T.free 86) (de_mul (de_var 4) (de_var 5))) (blkOk_by (N := n__law_nested_right) (sc := defScope s__law_nested_right) (by decide +kernel)) (fun _ _ _ _ _ => (pg_name (i := 17) sc__law_nested_right.nd rfl (by first | exact Or.inl rfl | exact Or.inr rfl))) (fun _ _ _ _ _ => (dp_one (dt_q (dq_and (dt_ne (de_mod (de_var 17) (de_add (de_var 3) de_int)) (de_var 3)) (dq_and1 (dt_lt (de_mod (de_var 17) (de_var 4)) (de_var 6))))))) (fun _ _ _ _ _ => (de_var 17)) (by decide))))
      (df_cons (w1 := (wP v5__law_nested_right)) (df_p (ds_set (i := 8) sc__law_nested_right.nd rfl (by first | exact Or.inl rfl | exact Or.inr rfl) (de_if (dt_gt (de_mul (de_var 4) (de_var 5)) de_int) de_int de_int)))
      (df_cons (w1 := v6__law_nested_right) (fs_set (i := 9) sc__law_nested_right.nd rfl (by first | exact Or.inl rfl | exact Or.inr rfl) (fe_add (de_var 8) (fe_draw (ok_draw T) hr (by decide) (by rfl) rfl (by first | exact Or.inl rfl | exact Or.inr (Or.inl rfl) | exact Or.inr (Or.inr rfl)) (de_add (de_sub (de_len (by rfl) (T.free 82) (de_w (de_var 7))) (de_var 8)) de_int))))
      (df_cons (w1 := (wP v7__law_nested_right)) (df_p (ds_vv fL_ok (ps_prL rfl sc__law_nested_right.nd (i := 10) (j := 11) rfl rfl (by decide) rfl rfl (de_call (ok_nested_book T) hr (by decide) (by rfl) (da_cons (de_var 2) (da_cons (de_var 3) (da_cons (de_var 4) (da_cons (de_var 6) (da_cons (de_var 5) (da_cons (de_var 9) da_nil))))))) (de_call (ok__law_class_numbers T) hr (by decide) (by rfl) (da_cons (de_var 2) (da_cons (de_var 4) (da_cons (de_var 5) da_nil)))))))
      (df_cons (w1 := (wP v8__law_nested_right)) (df_p (ds_set (i := 12) sc__law_nested_right.nd rfl (by first | exact Or.inl rfl | exact Or.inr rfl) (de_call (ok__law_reduced T) hr (by decide) (by rfl) (da_cons (de_var 2) (da_cons (de_call (ok__law_worths T) hr (by decide) (by rfl) (da_cons (de_var 2) (da_cons (de_var 11) (da_cons (dn_w (dn_takeL (de_var 7) (de_var 9))) da_nil)))) da_nil)))))
      (df_cons (w1 := (wP v9__law_nested_right)) (df_p (ds_if (dt_q (dq_or (dt_neD hr.units (de_w (de_call (ok__law_words T) hr (by decide) (by rfl) (da_cons (de_var 10) da_nil))) (de_w (de_var 12))) (dq_or1 (dt_ne (de_ix (de_w (de_var 10)) de_int) (de_mul (de_var 4) (de_var 5)))))) (dz_one (ds_ret (dr_e de_bl))) dz_nil))
      (df_cons (w1 := (wP v10__law_nested_right)) (df_p (ds_unp (is := [13, 14]) (ps_asg (de_call (ok_nested_groups T) hr (by decide) (by rfl) (da_cons (de_var 2) (da_cons (de_var 3) (da_cons (de_var 4) (da_cons (de_var 5) da_nil))))) (pg_tup rfl (pgs_cons (pg_name (i := 13) sc__law_nested_right.nd rfl (by first | exact Or.inl rfl | exact Or.inr rfl)) (pgs_cons (pg_name (i := 14) sc__law_nested_right.nd rfl (by first | exact Or.inl rfl | exact Or.inr rfl)) pgs_nil))))))
      (df_cons (w1 := (wP v11__law_nested_right)) (df_p (ds_if (dt_neD hr.units (de_w (de_var 14)) (de_w (de_tuple (by rfl) (T.free 81) (de_w (dn_w (dn_lc (own := [("_law_j", 18)]) rfl sc__law_nested_right.nd (di_range1 (by rfl) (T.free 86) (de_var 5)) (blkOk_by (N := n__law_nested_right) (sc := defScope s__law_nested_right) (by decide +kernel)) (fun _ _ _ _ _ => (pg_name (i := 18) sc__law_nested_right.nd rfl (by first | exact Or.inl rfl | exact Or.inr rfl))) (fun _ _ _ _ _ => dp_nil) (fun _ _ _ _ _ => (de_tupRg rfl (by rfl) (T.free 81) (by rfl) (T.free 86) (de_mul (de_var 18) (de_var 4)) (de_mul (de_add (de_var 18) de_int) (de_var 4)))) (by decide))))))) (dz_one (ds_ret (dr_e de_bl))) dz_nil))
      (df_cons (w1 := v12__law_nested_right) (fs_set (i := 15) sc__law_nested_right.nd rfl (by first | exact Or.inl rfl | exact Or.inr rfl) (fe_pick (ok_pick T) hr (by decide) (by rfl) rfl (by first | exact Or.inl rfl | exact Or.inr (Or.inl rfl) | exact Or.inr (Or.inr rfl)) (dn_w (dn_list (by rfl) (T.free 87) (de_w (de_var 14))))))
      (df_cons (w1 := v13__law_nested_right) (fs_set (i := 16) sc__law_nested_right.nd rfl (by first | exact Or.inl rfl | exact Or.inr rfl) (fe_tupLc (own := [("_law_k", 19)]) (by rfl) (T.free 81) rfl sc__law_nested_right.nd (fi_seq (fe_pick (ok_pick T) hr (by decide) (by rfl) rfl (by first | exact Or.inl rfl | exact Or.inr (Or.inl rfl) | exact Or.inr (Or.inr rfl)) (de_call (ok__law_lots T) hr (by decide) (by rfl) (da_cons (de_var 4) (da_cons (de_var 6) da_nil))))) (blkOk_by (N := n__law_nested_right) (sc := defScope s__law_nested_right) (by decide +kernel)) (fun _ _ _ _ _ => (pg_name (i := 19) sc__law_nested_right.nd rfl (by first | exact Or.inl rfl | exact Or.inr rfl))) (fun _ _ _ _ _ => dp_nil) (fun _ _ _ _ _ => (de_ix (de_w (de_var 15)) (de_var 19))) (by decide)))
      (df_cons (w1 := (wP v14__law_nested_right)) (df_p (ds_if (dt_ne (de_call (ok__law_told_on T) hr (by decide) (by rfl) (da_cons (de_var 10) (da_cons (de_var 16) da_nil))) (de_call (ok__law_told_on T) hr (by decide) (by rfl) (da_cons (de_var 10) (da_cons (de_var 15) da_nil)))) (dz_one (ds_ret (dr_e de_bl))) dz_nil))
      (dfs_p (dz_one (ds_ret (dr_e (de_and (de_call (ok__law_small_right T) hr (by decide) (by rfl) (da_cons (de_var 10) (da_cons (de_var 13) (da_cons (de_var 3) da_nil)))) (de_one (de_call (ok__law_far_enough T) hr (by decide) (by rfl) (da_cons (de_var 10) (da_cons (dn_w (dn_takeL (de_var 7) (de_var 9))) da_nil))))))))))))))))))))))))
def n__law_crossed_right : List PySem.Str := ["_law_feed_here", "_law_some", "_law_prime", "_law_one", "_law_other", "_law_many", "_law_size", "_law_fit", "_law_least", "_law_told", "_law_book", "_law_numbers", "_law_rows", "_law_first", "_law_second", "_law_groups", "_law_each", "_law_group", "_law_late", "_law_e", "_law_place"]
theorem sc__law_crossed_right : FnScope n__law_crossed_right ["_law_feed_here"] (defScope s__law_crossed_right) := ⟨rfl, rfl, rfl, by decide +kernel, rfl, by decide +kernel, by decide +kernel⟩
def v0__law_crossed_right : MS := (mSet 1 (lM (mLst (mCons (mTup (mCons (mC (.int 7)) (mCons (mC (.int 2)) (mCons (mC (.int 3)) (mCons (mC (.int 1)) mNil))))) (mCons (mTup (mCons (mC (.int 13)) (mCons (mC (.int 3)) (mCons (mC (.int 2)) (mCons (mC (.int 2)) mNil))))) (mCons (mTup (mCons (mC (.int 13)) (mCons (mC (.int 3)) (mCons (mC (.int 4)) (mCons (mC (.int 1)) mNil))))) (mCons (mTup (mCons (mC (.int 11)) (mCons (mC (.int 2)) (mCons (mC (.int 5)) (mCons (mC (.int 1)) mNil))))) (mCons (mTup (mCons (mC (.int 31)) (mCons (mC (.int 2)) (mCons (mC (.int 3)) (mCons (mC (.int 2)) mNil))))) (mCons (mTup (mCons (mC (.int 31)) (mCons (mC (.int 5)) (mCons (mC (.int 2)) (mCons (mC (.int 1)) mNil))))) (mCons (mTup (mCons (mC (.int 19)) (mCons (mC (.int 3)) (mCons (mC (.int 2)) (mCons (mC (.int 1)) mNil))))) mNil))))))))))
def v1__law_crossed_right : WS := (wUnp [2, 3, 4, 5] (wPick (mVar 1)))
def v2__law_crossed_right : MS := (mSet 6 (mBin gMul (mBin gMul (mVar 3) (mVar 4)) (mVar 5)))
def v3__law_crossed_right : MS := (mSet 7 (lM (mLc (mRg1 (mVar 6)) (.nm 19) (mAndB (mCmpB pNe (mBin gMod (mVar 19) (mVar 3)) (mBin gSub (mVar 3) (mC (.int 1)))) (mCmpB pNe (mBin gMod (mVar 19) (mVar 4)) (mBin gSub (mVar 4) (mC (.int 1))))) (mVar 19) [19])))
def v4__law_crossed_right : MS := (mSet 8 (mIf (mCmpB pGt (mVar 6) (mC (.int 11))) (mC (.int 3)) (mC (.int 1))))
def v5__law_crossed_right : WS := (wSet 9 (wAdd (mVar 8) (wDraw (mBin gAdd (mBin gSub (mLen (mVar 7)) (mVar 8)) (mC (.int 1))))))
def v6__law_crossed_right : MS := (mPar 10 11 (sV (mCall m_crossed_book (mCons (mVar 2) (mCons (mVar 3) (mCons (mVar 4) (mCons (mVar 5) (mCons (mVar 9) mNil))))))) (sV (mCall m__law_class_numbers (mCons (mVar 2) (mCons (mBin gMul (mVar 3) (mVar 4)) (mCons (mVar 5) mNil))))))
def v7__law_crossed_right : MS := (mSet 12 (mCall m__law_reduced (mCons (mVar 2) (mCons (mCall m__law_worths (mCons (mVar 2) (mCons (mVar 11) (mCons (lM (mTakeL (mVar 7) (mVar 9))) mNil)))) mNil))))
def v8__law_crossed_right : MS := (mIfS (mOrB (mEqB true (mCall m__law_words (mCons (mVar 10) mNil)) (mVar 12)) (mCmpB pNe (mIx (mVar 10) (mC (.int 1))) (mVar 6))) (mRet (mC (.bool false))) mSkip)
def v9__law_crossed_right : MS := (mUnp [13, 14] (mCall m_crossed_groups (mCons (mVar 3) (mCons (mVar 4) (mCons (mVar 5) mNil)))))
def v10__law_crossed_right : MS := (mFor (mSeq (mTup (mCons (mTup (mCons (mVar 13) (mCons (mVar 3) mNil))) (mCons (mTup (mCons (mVar 14) (mCons (mVar 4) mNil))) mNil)))) (.pr 15 16) (mSeq2 (mIfS (mEqB true (lM (mLc (mSeq (mVar 15)) (.nm 17) (mOrB (mCmpB pNe (mLen (mVar 17)) (mVar 16)) (mNotB (bM (mCall m__law_group_right (mCons (mVar 10) (mCons (mVar 17) mNil)))))) (mVar 17) [17])) (lM (mLst mNil))) (mRet (mC (.bool false))) mSkip) (mIfS (mCmpB pNe (mBin gMul (mLen (mVar 15)) (mVar 16)) (mVar 6)) (mRet (mC (.bool false))) mSkip)))
def v11__law_crossed_right : MS := (mFor (mSeq (mVar 13)) (.nm 17) (mFor (mSeq (mVar 14)) (.nm 18) (mIfS (mCmpB pGt (mLen (lM (mLc (mSeq (mVar 17)) (.nm 20) (mInB false (mVar 20) (mVar 18)) (mVar 20) [20]))) (mC (.int 1))) (mRet (mC (.bool false))) mSkip)))
def v12__law_crossed_right : MS := (mRet (mCall m__law_far_enough (mCons (mVar 10) (mCons (lM (mTakeL (mVar 7) (mVar 9))) mNil))))
def w__law_crossed_right : WS := (wSeq (wP v0__law_crossed_right) (wSeq v1__law_crossed_right (wSeq (wP v2__law_crossed_right) (wSeq (wP v3__law_crossed_right) (wSeq (wP v4__law_crossed_right) (wSeq v5__law_crossed_right (wSeq (wP v6__law_crossed_right) (wSeq (wP v7__law_crossed_right) (wSeq (wP v8__law_crossed_right) (wSeq (wP v9__law_crossed_right) (wSeq (wP v10__law_crossed_right) (wSeq (wP v11__law_crossed_right) (wP v12__law_crossed_right)))))))))))))
theorem walk__law_crossed_right {P : Program} {w : World} {K : PySem.W.Frag} {mg : PySem.Str → Option Value} {base : Heap} (T : Tx K mg) (f : Addr) (cdv : Value) (A : Around) (outer : List Env) (s : Shared) (H : Hp) (E : XK) (hr : Room 10 (A.deeper (envOfC d__law_crossed_right.qual d__law_crossed_right.scope s.heap.objs.size f cdv))) :
    PSs (cxOf CX0 P w K mg base n__law_crossed_right d__law_crossed_right.qual d__law_crossed_right.scope f cdv A outer s H E).nox d__law_crossed_right.body (TF w__law_crossed_right) :=
    (df_cons (w1 := (wP v0__law_crossed_right)) (df_p (ds_set (i := 1) sc__law_crossed_right.nd rfl (by first | exact Or.inl rfl | exact Or.inr rfl) (dn_w (dn_lst (da_cons (de_tup (da_cons de_int (da_cons de_int (da_cons de_int (da_cons de_int da_nil))))) (da_cons (de_tup (da_cons de_int (da_cons de_int (da_cons de_int (da_cons de_int da_nil))))) (da_cons (de_tup (da_cons de_int (da_cons de_int (da_cons de_int (da_cons de_int da_nil))))) (da_cons (de_tup (da_cons de_int (da_cons de_int (da_cons de_int (da_cons de_int da_nil))))) (da_cons (de_tup (da_cons de_int (da_cons de_int (da_cons de_int (da_cons de_int da_nil))))) (da_cons (de_tup (da_cons de_int (da_cons de_int (da_cons de_int (da_cons de_int da_nil))))) (da_cons (de_tup (da_cons de_int (da_cons de_int (da_cons de_int (da_cons de_int da_nil))))) da_nil)))))))))))
      (df_cons (w1 := v1__law_crossed_right) (fs_unp (is := [2, 3, 4, 5]) (ps_asg (fe_pick (ok_pick T) hr (by decide) (by rfl) rfl (by first | exact Or.inl rfl | exact Or.inr (Or.inl rfl) | exact Or.inr (Or.inr rfl)) (de_var 1)) (pg_tup rfl (pgs_cons (pg_name (i := 2) sc__law_crossed_right.nd rfl (by first | exact Or.inl rfl | exact Or.inr rfl)) (pgs_cons (pg_name (i := 3) sc__law_crossed_right.nd rfl (by first | exact Or.inl rfl | exact Or.inr rfl)) (pgs_cons (pg_name (i := 4) sc__law_crossed_right.nd rfl (by first | exact Or.inl rfl | exact Or.inr rfl)) (pgs_cons (pg_name (i := 5) sc__law_crossed_right.nd rfl (by first | exact Or.inl rfl | exact Or.inr rfl)) pgs_nil)))))))
      (df_cons (w1 := (wP v2__law_crossed_right)) (df_p (ds_set (i := 6) sc__law_crossed_right.nd rfl (by first | exact Or.inl rfl | exact Or.inr rfl) (de_mul (de_mul (de_var 3) (de_var 4)) (de_var 5))))
      (df_cons (w1 := (wP v3__law_crossed_right)) (df_p (ds_V (dx_setLc (i := 7) (own := [("_law_e", 19)]) rfl sc__law_crossed_right.nd rfl rfl (sw_true rfl rfl rfl (by decide +kernel)) (di_range1 (by rfl) (T.free 86) (de_var 6)) (blkOk_by (N := n__law_crossed_right) (sc := defScope s__law_crossed_right) (by decide +kernel)) (fun _ _ _ _ _ => (pg_name (i := 19) sc__law_crossed_right.nd rfl (by first | exact Or.inl rfl | exact Or.inr rfl))) (fun _ _ _ _ _ => (dp_one (dt_q (dq_and (dt_ne (de_mod (de_var 19) (de_var 3)) (de_sub (de_var 3) de_int)) (dq_and1 (dt_ne (de_mod (de_var 19) (de_var 4)) (de_sub (de_var 4) de_int))))))) (fun _ _ _ _ _ => (de_var 19)) (by decide))))
      (df_cons (w1 := (wP v4__law_crossed_right)) (df_p (ds_set (i := 8) sc__law_crossed_right.nd rfl (by first | exact Or.inl rfl | exact Or.inr rfl) (de_if (dt_gt (de_var 6) de_int) de_int de_int)))
      (df_cons (w1 := v5__law_crossed_right) (fs_set (i := 9) sc__law_crossed_right.nd rfl (by first | exact Or.inl rfl | exact Or.inr rfl) (fe_add (de_var 8) (fe_draw (ok_draw T) hr (by decide) (by rfl) rfl (by first | exact Or.inl rfl | exact Or.inr (Or.inl rfl) | exact Or.inr (Or.inr rfl)) (de_add (de_sub (de_len (by rfl) (T.free 82) (de_w (de_var 7))) (de_var 8)) de_int))))
      (df_cons (w1 := (wP v6__law_crossed_right)) (df_p (ds_vv fT_ok (ps_prT rfl (pg_name (i := 10) sc__law_crossed_right.nd rfl (by first | exact Or.inl rfl | exact Or.inr rfl)) (pg_name (i := 11) sc__law_crossed_right.nd rfl (by first | exact Or.inl rfl | exact Or.inr rfl)) (de_call (ok_crossed_book T) hr (by decide) (by rfl) (da_cons (de_var 2) (da_cons (de_var 3) (da_cons (de_var 4) (da_cons (de_var 5) (da_cons (de_var 9) da_nil)))))) (de_call (ok__law_class_numbers T) hr (by decide) (by rfl) (da_cons (de_var 2) (da_cons (de_mul (de_var 3) (de_var 4)) (da_cons (de_var 5) da_nil)))))))
      (df_cons (w1 := (wP v7__law_crossed_right)) (df_p (ds_set (i := 12) sc__law_crossed_right.nd rfl (by first | exact Or.inl rfl | exact Or.inr rfl) (de_call (ok__law_reduced T) hr (by decide) (by rfl) (da_cons (de_var 2) (da_cons (de_call (ok__law_worths T) hr (by decide) (by rfl) (da_cons (de_var 2) (da_cons (de_var 11) (da_cons (dn_w (dn_takeL (de_var 7) (de_var 9))) da_nil)))) da_nil)))))
      (df_cons (w1 := (wP v8__law_crossed_right)) (df_p (ds_if (dt_q (dq_or (dt_neD hr.units (de_w (de_call (ok__law_words T) hr (by decide) (by rfl) (da_cons (de_var 10) da_nil))) (de_w (de_var 12))) (dq_or1 (dt_ne (de_ix (de_w (de_var 10)) de_int) (de_var 6))))) (dz_one (ds_ret (dr_e de_bl))) dz_nil))
      (df_cons (w1 := (wP v9__law_crossed_right)) (df_p (ds_unp (is := [13, 14]) (ps_asg (de_call (ok_crossed_groups T) hr (by decide) (by rfl) (da_cons (de_var 3) (da_cons (de_var 4) (da_cons (de_var 5) da_nil)))) (pg_tup rfl (pgs_cons (pg_name (i := 13) sc__law_crossed_right.nd rfl (by first | exact Or.inl rfl | exact Or.inr rfl)) (pgs_cons (pg_name (i := 14) sc__law_crossed_right.nd rfl (by first | exact Or.inl rfl | exact Or.inr rfl)) pgs_nil))))))
      (df_cons (w1 := (wP v10__law_crossed_right)) (df_p (ds_for PassesOwn.never rfl (di_seq (de_tup (da_cons (de_tup (da_cons (de_var 13) (da_cons (de_var 3) da_nil))) (da_cons (de_tup (da_cons (de_var 14) (da_cons (de_var 4) da_nil))) da_nil)))) (pg_tup rfl (pgs_cons (pg_name (i := 15) sc__law_crossed_right.nd rfl (by first | exact Or.inl rfl | exact Or.inr rfl)) (pgs_cons (pg_name (i := 16) sc__law_crossed_right.nd rfl (by first | exact Or.inl rfl | exact Or.inr rfl)) pgs_nil))) (dz_cons (ds_if (dt_neD hr.units (de_w (dn_w (dn_lc (own := [("_law_group", 17)]) rfl sc__law_crossed_right.nd (di_seq (de_var 15)) (blkOk_by (N := n__law_crossed_right) (sc := defScope s__law_crossed_right) (by decide +kernel)) (fun _ _ _ _ _ => (pg_name (i := 17) sc__law_crossed_right.nd rfl (by first | exact Or.inl rfl | exact Or.inr rfl))) (fun _ _ _ _ _ => (dp_one (dt_q (dq_or (dt_ne (de_len (by rfl) (T.free 82) (de_w (de_var 17))) (de_var 16)) (dq_or1 (dt_not (dt_val (de_call (ok__law_group_right T) hr (by decide) (by rfl) (da_cons (de_var 10) (da_cons (de_var 17) da_nil)))))))))) (fun _ _ _ _ _ => (de_var 17)) (by decide)))) (de_w (dn_w (dn_lst da_nil)))) (dz_one (ds_ret (dr_e de_bl))) dz_nil) (dz_one (ds_if (dt_ne (de_mul (de_len (by rfl) (T.free 82) (de_w (de_var 15))) (de_var 16)) (de_var 6)) (dz_one (ds_ret (dr_e de_bl))) dz_nil)))))
      (df_cons (w1 := (wP v11__law_crossed_right)) (df_p (ds_for PassesOwn.never rfl (di_seq (de_var 13)) (pg_name (i := 17) sc__law_crossed_right.nd rfl (by first | exact Or.inl rfl | exact Or.inr rfl)) (dz_one (ds_for PassesOwn.never rfl (di_seq (de_var 14)) (pg_name (i := 18) sc__law_crossed_right.nd rfl (by first | exact Or.inl rfl | exact Or.inr rfl)) (dz_one (ds_if (dt_gt (de_len (by rfl) (T.free 82) (de_w (dn_w (dn_lc (own := [("_law_place", 20)]) rfl sc__law_crossed_right.nd (di_seq (de_var 17)) (blkOk_by (N := n__law_crossed_right) (sc := defScope s__law_crossed_right) (by decide +kernel)) (fun _ _ _ _ _ => (pg_name (i := 20) sc__law_crossed_right.nd rfl (by first | exact Or.inl rfl | exact Or.inr rfl))) (fun _ _ _ _ _ => (dp_one (dt_in (de_var 20) (de_var 18)))) (fun _ _ _ _ _ => (de_var 20)) (by decide))))) de_int) (dz_one (ds_ret (dr_e de_bl))) dz_nil))))))
      (dfs_p (dz_one (ds_ret (dr_e (de_call (ok__law_far_enough T) hr (by decide) (by rfl) (da_cons (de_var 10) (da_cons (dn_w (dn_takeL (de_var 7) (de_var 9))) da_nil)))))))))))))))))))
end Mf
set_option Elab.async false
set_option linter.all false
set_option maxRecDepth 100000
set_option maxHeartbeats 4000000
namespace Mf
open PySem PySem.Spec PyProof.Rows L2 Ly
def spN : Sp := fun vs H Q _ => ∃ g c, vs = [.ref g] ∧ FeedAt H g c ∧ ∀ H', FeedAt H' g c → Q (.bl true) H'
/-- the law's two halves, said of the data -/
def NestedLaw : Prop := ∀ g, w__law_nested_right g (.pt g :: List.replicate 19 .no) fun out => out = .rt (.bool true)
def CrossedLaw : Prop := ∀ g, w__law_crossed_right g (.pt g :: List.replicate 20 .no) fun out => out = .rt (.bool true)
theorem start_feed {g c : Addr} {H : Hp} (F : FeedAt H g c) (k : Nat) : StF g c [g] (.pt g :: List.replicate k .no) (some (.ref g) :: List.replicate k none) H := by
  have F0 := F
  obtain ⟨⟨fa, fl, fn, hd⟩, ns, hns, hl⟩ := F
  have no : ∀ (j : Nat) es, (Sl.pt g :: List.replicate k .no)[j]? ≠ some (.own es) := fun j es z => by
    rcases List.mem_cons.mp (List.mem_of_getElem? z) with e | e
    · cases e
    · have := List.eq_of_mem_replicate e
      cases this
  refine ⟨⟨by simp, fun i x s h1 h2 => ?_, fun p hp z => ?_, fun i j p a b _ h1 _ _ _ => no _ _ h1⟩, List.mem_singleton.mpr rfl, F0, fun z => ?_, fun j es h _ => no _ _ h⟩
  · cases i with
    | zero => cases h1; cases h2; rfl
    | succ i =>
      have := List.eq_of_mem_replicate (List.mem_of_getElem? (show (List.replicate k Sl.no)[i]? = some s from h2))
      subst this
      trivial
  · rw [List.mem_singleton.mp hp, hd] at z; cases z
  · rw [List.mem_singleton.mp z, hd] at hl; cases hl
def n_law : List PySem.Str := ["_law_script", "_law_feed_here"]
theorem sc_law : FnScope n_law ["_law_script"] (defScope s_law) := ⟨rfl, rfl, rfl, by decide +kernel, rfl, by decide +kernel, by decide +kernel⟩
def spLaw (K : PySem.W.Frag) : Sp := fun vs H Q _ => ∃ (a : Addr) (ns : List Int), vs = [.ref a] ∧ SqL K H a (ns.map V.int) ∧ ns.length ≤ 63 ∧ ∀ H', Q (.bl true) H'
section
variable {P : Program} {w : World} {K : PySem.W.Frag} {mg : PySem.Str → Option Value} {base : Heap}
theorem ok_nested (T : Tx K mg) (hN : NestedLaw) : FnS P w K mg base 11 "_law_nested_right" ["_law_feed_here"] spN :=
  T.mkS 73 d__law_nested_right sc__law_nested_right (fun _ _ _ _ _ _ us hl => match us, hl with | [_], _ => rfl) (fun vs H Q E ⟨g, c, e, _⟩ => by rw [e]; rfl) fun fa cdv A outer s H E vs Q hr h => by
    refine ⟨_, walk__law_nested_right T fa cdv A outer s H E hr, ?_⟩
    obtain ⟨g, c, rfl, F, hq⟩ := h
    exact ⟨g, c, [g], _, _, start_feed F 19, hN g, fun out ho => by
      subst ho
      exact fun v H' ⟨O, hv⟩ F' => by rw [dp_bl hv]; exact hq H' F'⟩
theorem ok_crossed (T : Tx K mg) (hC : CrossedLaw) : FnS P w K mg base 11 "_law_crossed_right" ["_law_feed_here"] spN :=
  T.mkS 74 d__law_crossed_right sc__law_crossed_right (fun _ _ _ _ _ _ us hl => match us, hl with | [_], _ => rfl) (fun vs H Q E ⟨g, c, e, _⟩ => by rw [e]; rfl) fun fa cdv A outer s H E vs Q hr h => by
    refine ⟨_, walk__law_crossed_right T fa cdv A outer s H E hr, ?_⟩
    obtain ⟨g, c, rfl, F, hq⟩ := h
    exact ⟨g, c, [g], _, _, start_feed F 20, hC g, fun out ho => by
      subst ho
      exact fun v H' ⟨O, hv⟩ F' => by rw [dp_bl hv]; exact hq H' F'⟩
theorem body_law (T : Tx K mg) (hN : NestedLaw) (hC : CrossedLaw) : BodyS P w K mg base 11 d_law n_law (spLaw K) := fun fa cdv A outer s H E vs Q hr h => by
    refine ⟨_, pss_cons (ps_set (i := 1) sc_law.nd rfl (by first | exact Or.inl rfl | exact Or.inr rfl) (pe_callS (ok_feed T) hr (by decide) (by rfl) (pa_cons (pv 0) pa_nil)))
      (pss_one (ps_ret (pe_and (pe_callS (ok_nested T hN) hr (by decide) (by rfl) (pa_cons (pv 1) pa_nil)) (pe_one (pe_callS (ok_crossed T hC) hr (by decide) (by rfl) (pa_cons (pv 1) pa_nil)))))), ?_⟩
    obtain ⟨a, ns, rfl, hs, hn, hq⟩ := h
    refine ⟨.ref a, rfl, a, ns, rfl, hs, by omega, fun g c H' hg x F => ?_⟩
    exact ⟨.ref g, rfl, g, c, rfl, F, fun H2 F2 => ⟨true, rfl, .ref g, rfl, g, c, rfl, F2, fun H3 _ => hq H3⟩⟩
end
/-- the text, held to what is needed of it at the end -/
theorem facts {P : Program} {w : World} {K : PySem.W.Frag} {h : Heap} {mg : PySem.Str → Option Value} {f : Addr} (X : K.In h) (G : h.Ns mainGlobals mg) (hfa : mg ("law" : PySem.Str) = some (.ref f)) (c : He.SaysD faL fnL K) (hN : NestedLaw) (hC : CrossedLaw) :
    ∃ fd : FuncData, (∀ (s : Shared) (v : Value), BindsTo s fd ⟨[v], []⟩ [("_law_script", v)]) ∧ ∀ base : Heap, K.In base → base.Ns mainGlobals mg → FnOk P w K mg base CX0 12 f fd ["_law_script"] (spLaw K) := by
  have T : Tx K mg := ⟨h, X, G, c⟩
  obtain ⟨fd0, F⟩ := c.def_ 75 (d := d_law) rfl
  have F1 : FunD K d_law.name d_law.qual d_law.params d_law.body d_law.scope [] [] (He.fAd K d_law.at_) fd0 := F
  have b := FunD.bindsA (ps := ["_law_script"]) F1 fun _ _ _ _ _ _ us hl => match us, hl with | [_], _ => rfl
  refine ⟨fd0, fun s v => b s [v] rfl, fun base _ _ => ?_⟩
  have e := hfa.symm.trans (T.glo 75 (x := "law") rfl)
  cases e
  refine F1.ok sc_law (fun vs H Q E ⟨a, ns, e, _⟩ => by rw [e]; rfl) fun cdv A outer s H vs Q E hr h => ?_
  obtain ⟨t, h1, h2⟩ := body_law (P := P) (w := w) (base := base) T hN hC _ cdv A outer s H E vs Q hr h
  exact ⟨t, PSs.nox h1, h2⟩
end Mf
set_option Elab.async false
set_option linter.all false
set_option maxRecDepth 100000
set_option maxHeartbeats 4000000
namespace Pl
open PySem Ly Mf L2
abbrev eN (n : Nat) : PyData := .int (Int.ofNat n)
def eR (r : List Nat) : PyData := .tuple (r.map eN)
/-! mirrors, step by step -/
section
variable {r r1 : List Sl} {m m1 m2 : MS} {me ma mb : ME} {ml : ML} {mt : MB} {i j k : Int} {d : PyData} {ds out : List PyData} {o : Option Out}
theorem mFn_rt {np nl : Nat} (h : ds.length = np) (hm : m (ds.map Sl.val ++ List.replicate (nl - np) .no) = some (.rt d)) : mFn np nl m ds = some d := by
  unfold mFn
  rw [if_pos h, hm]; rfl
theorem seq_nx (h1 : m1 r = some (.nx r1)) (h2 : m2 r1 = o) : mSeq2 m1 m2 r = o := by
  unfold mSeq2
  rw [h1]; exact h2
theorem seq_rt (h1 : m1 r = some (.rt d)) : mSeq2 m1 m2 r = some (.rt d) := by
  unfold mSeq2
  rw [h1]; rfl
theorem ret_ok (h : me r = some d) : mRet me r = some (.rt d) := by
  unfold mRet
  rw [h]; rfl
theorem set_ok {x : Nat} (h : me r = some d) : mSet x me r = some (.nx (r.set x (.val d))) := by
  unfold mSet
  rw [h]; rfl
theorem setO_ok {x : Nat} (h : ml r = some ds) : mSetO x ml r = some (.nx (r.set x (.own ds))) := by
  unfold mSetO
  rw [h]; rfl
theorem if_t (h : mt r = some true) (h1 : m1 r = o) : mIfS mt m1 m2 r = o := by
  unfold mIfS
  rw [h]; exact h1
theorem if_f (h : mt r = some false) (h1 : m2 r = o) : mIfS mt m1 m2 r = o := by
  unfold mIfS
  rw [h]; exact h1
theorem iM_of (h : me r = some (.int i)) : iM me r = some i := by
  unfold iM
  rw [h]; rfl
theorem bin_ok {g : Int → Int → Option Int} (ha : iM ma r = some i) (hb : iM mb r = some j) (hg : g i j = some k) : mBin g ma mb r = some (.int k) := by
  unfold mBin
  rw [ha]
  show (iM mb r).bind _ = _
  rw [hb]
  show (g i j).map _ = _
  rw [hg]; rfl
theorem cmp_ok {p : Int → Int → Bool} (ha : iM ma r = some i) (hb : iM mb r = some j) : mCmpB p ma mb r = some (p i j) := by
  unfold mCmpB
  rw [ha]
  show (iM mb r).map _ = _
  rw [hb]; rfl
theorem int_ok (ha : iM ma r = some i) : mInt ma r = some (.int i) := by
  unfold mInt
  rw [ha]; rfl
theorem neg_ok (ha : iM ma r = some i) : mNeg ma r = some (.int (-i)) := by
  unfold mNeg
  rw [ha]; rfl
theorem mul_ok (h1 : -18446744073709551616 < i) (h2 : i < 18446744073709551616) : gMul i j = some (i * j) := if_pos ⟨h1, h2⟩
theorem mod_ok (h1 : 0 < j) : gMod i j = some (i % j) := if_pos h1
theorem lM_ok (h : ml r = some ds) : lM ml r = some (.list ds) := by
  unfold lM
  rw [h]; rfl
theorem tupOf_l (h : ml r = some ds) : mTupOf (lM ml) r = some (.tuple ds) := by
  unfold mTupOf
  rw [lM_ok h]; rfl
theorem seq_ok (h : me r = some d) (hd : asSeq d = some ds) : mSeq me r = some ds := by
  unfold mSeq
  rw [h]; exact hd
theorem len_ok (h : me r = some d) (hd : asSeq d = some ds) : mLen me r = some (.int ds.length) := by
  unfold mLen
  rw [h]
  show (asSeq d).map _ = _
  rw [hd]; rfl
theorem lc_ok {mi : ML} {tg : Tg} {vs : List Nat} (h1 : mi r = some ds) (h2 : lcGo tg mt me (wipeR r vs) ds = some out) (h3 : out.length ≤ 100000) : mLc mi tg mt me vs r = some out := by
  unfold mLc
  rw [h1]
  show (lcGo tg mt me (wipeR r vs) ds).bind _ = _
  rw [h2]
  exact if_pos (decide_eq_true h3)
theorem for_ok {mi : ML} {tg : Tg} (h1 : mi r = some ds) (h2 : forGo tg m ds r = o) : mFor mi tg m r = o := by
  unfold mFor
  rw [h1]; exact h2
theorem call_ok {f : List PyData → Option PyData} (h : ml r = some ds) (hf : f ds = some d) : mCall f ml r = some d := by
  unfold mCall
  rw [h]; exact hf
theorem cons_ok (h : me r = some d) (hr : ml r = some ds) : mCons me ml r = some (d :: ds) := by
  unfold mCons
  rw [h]
  show (ml r).map _ = _
  rw [hr]; rfl
theorem nil_ok : mNil r = some [] := rfl
theorem rg1_ok (h : iM me r = some j) (hj : okRg 0 j = true) : mRg1 me r = some (rgD 0 j) := by
  unfold mRg1
  rw [h]; exact if_pos hj
theorem rg2_ok (h : iM ma r = some i) (h2 : iM mb r = some j) (hj : okRg i j = true) : mRg2 ma mb r = some (rgD i j) := by
  unfold mRg2
  rw [h]
  show (iM mb r).bind _ = _
  rw [h2]; exact if_pos hj
theorem ix_ok (h : ma r = some d) (hd : asSeq d = some ds) (h2 : iM mb r = some j) {e : PyData} (h3 : atI ds j = some e) : mIx ma mb r = some e := by
  unfold mIx
  rw [h]
  show (asSeq d).bind _ = _
  rw [hd]
  show (iM mb r).bind _ = _
  rw [h2]; exact h3
end
theorem lcGo_map {α : Type} (enc : α → PyData) (t : α → Bool) (g : α → PyData) {tg : Tg} {mt : MB} {me : ME} {r : List Sl} : ∀ (xs : List α), (∀ x ∈ xs, ∃ r1, setT tg (enc x) r = some r1 ∧ mt r1 = some (t x) ∧ (t x = true → me r1 = some (g x))) →
    lcGo tg mt me r (xs.map enc) = some ((xs.filter t).map g)
  | [], _ => rfl
  | x :: xs, h => by
    obtain ⟨r1, h1, h2, h3⟩ := h x (List.mem_cons_self ..)
    have ih := lcGo_map enc t g xs fun y hy => h y (List.mem_cons_of_mem _ hy)
    show (setT tg (enc x) r).bind _ = _
    rw [h1]
    show (mt r1).bind _ = _
    rw [h2]
    cases e : t x with
    | false =>
      show lcGo tg mt me r (xs.map enc) = _
      rw [ih, List.filter_cons_of_neg (by rw [e]; decide)]
    | true =>
      show (me r1).bind _ = _
      rw [h3 e]
      show (lcGo tg mt me r (xs.map enc)).map _ = _
      rw [ih, List.filter_cons_of_pos e]; rfl
theorem lcGo_all {α : Type} (enc : α → PyData) (g : α → PyData) {tg : Tg} {me : ME} {r : List Sl} (xs : List α) (h : ∀ x ∈ xs, ∃ r1, setT tg (enc x) r = some r1 ∧ me r1 = some (g x)) : lcGo tg mYes me r (xs.map enc) = some (xs.map g) := by
  rw [lcGo_map enc (fun _ => true) g xs fun x hx => ⟨(h x hx).choose, (h x hx).choose_spec.1, rfl, fun _ => (h x hx).choose_spec.2⟩, List.filter_eq_self.mpr fun _ _ => rfl]
theorem forGo_fold {α S : Type} (R : S → List Sl → Prop) (enc : α → PyData) (f : S → α → S) {tg : Tg} {m : MS} : ∀ (xs : List α), (∀ x ∈ xs, ∀ s r, R s r → ∃ r1 r2, setT tg (enc x) r = some r1 ∧ m r1 = some (.nx r2) ∧ R (f s x) r2) →
    ∀ s r, R s r → ∃ r', forGo tg m (xs.map enc) r = some (.nx r') ∧ R (xs.foldl f s) r'
  | [], _, s, r, h => ⟨r, rfl, h⟩
  | x :: xs, h, s, r, hr => by
    obtain ⟨r1, r2, h1, h2, h3⟩ := h x (List.mem_cons_self ..) s r hr
    obtain ⟨r', h4, h5⟩ := forGo_fold R enc f xs (fun y hy => h y (List.mem_cons_of_mem _ hy)) (f s x) r2 h3
    refine ⟨r', ?_, h5⟩
    show (setT tg (enc x) r).bind _ = _
    rw [h1]
    show (m r1).bind _ = _
    rw [h2]
    exact h4
theorem forGo_fold2 {α S : Type} (R : List α → S → List Sl → Prop) (enc : α → PyData) (f : S → α → S) {tg : Tg} {m : MS} : ∀ (xs : List α), (∀ x ∈ xs, ∀ ys s r, R (x :: ys) s r → ∃ r1 r2, setT tg (enc x) r = some r1 ∧ m r1 = some (.nx r2) ∧ R ys (f s x) r2) →
    ∀ s r, R xs s r → ∃ r', forGo tg m (xs.map enc) r = some (.nx r') ∧ R [] (xs.foldl f s) r'
  | [], _, s, r, h => ⟨r, rfl, h⟩
  | x :: xs, h, s, r, hr => by
    obtain ⟨r1, r2, h1, h2, h3⟩ := h x (List.mem_cons_self ..) xs s r hr
    obtain ⟨r', h4, h5⟩ := forGo_fold2 R enc f xs (fun y hy => h y (List.mem_cons_of_mem _ hy)) (f s x) r2 h3
    refine ⟨r', ?_, h5⟩
    show (setT tg (enc x) r).bind _ = _
    rw [h1]
    show (m r1).bind _ = _
    rw [h2]
    exact h4
/-- until the first that ends the def -/
theorem forGo_find {α : Type} (R : List Sl → Prop) (enc : α → PyData) (p : α → Bool) (g : α → PyData) {tg : Tg} {m : MS} : ∀ (xs : List α), (∀ x ∈ xs, ∀ r, R r → ∃ r1, setT tg (enc x) r = some r1 ∧ (p x = true → m r1 = some (.rt (g x))) ∧ (p x = false → ∃ r2, m r1 = some (.nx r2) ∧ R r2)) →
    ∀ r, R r → (∀ y, xs.find? p = some y → forGo tg m (xs.map enc) r = some (.rt (g y))) ∧ (xs.find? p = none → ∃ r', forGo tg m (xs.map enc) r = some (.nx r') ∧ R r')
  | [], _, r, hr => ⟨(fun y h => by cases h), fun _ => ⟨r, rfl, hr⟩⟩
  | x :: xs, h, r, hr => by
    obtain ⟨r1, h1, h2, h3⟩ := h x (List.mem_cons_self ..) r hr
    have e : forGo tg m ((x :: xs).map enc) r = (m r1).bind fun o => match o with
      | .nx r2 => forGo tg m (xs.map enc) r2
      | .rt e => some (.rt e) := by
      show (setT tg (enc x) r).bind _ = _
      rw [h1]; rfl
    cases hp : p x with
    | true =>
      rw [List.find?_cons_of_pos hp]
      refine ⟨fun y hy => ?_, fun z => by cases z⟩
      cases hy
      rw [e, h2 hp]; rfl
    | false =>
      rw [List.find?_cons_of_neg (by rw [hp]; decide)]
      obtain ⟨r2, h4, h5⟩ := h3 hp
      obtain ⟨a, b⟩ := forGo_find R enc p g xs (fun y hy => h y (List.mem_cons_of_mem _ hy)) r2 h5
      rw [e, h4]
      exact ⟨a, b⟩
/-! rows of small numbers -/
def nth : List Nat → Nat → Nat
  | [], _ => 0
  | a :: _, 0 => a
  | _ :: as, n + 1 => nth as n
theorem nth_get : ∀ {r : List Nat} {n : Nat}, n < r.length → r[n]? = some (nth r n)
  | a :: as, 0, _ => rfl
  | a :: as, n + 1, h => nth_get (r := as) (Nat.lt_of_succ_lt_succ h)
theorem nth_mem {r : List Nat} {n : Nat} (h : n < r.length) : nth r n ∈ r := List.mem_of_getElem? (nth_get h)
theorem at_eN {r : List Nat} {n : Nat} (h : n < r.length) : atI (r.map eN) (Int.ofNat n) = some (eN (nth r n)) := by
  unfold L2.atI L2.ixN
  rw [if_pos (show (0 : Int) ≤ Int.ofNat n from Int.natCast_nonneg n), if_pos (by rw [List.length_map]; exact Int.ofNat_lt.mpr h)]
  show (r.map eN)[n]? = _
  rw [List.getElem?_map, nth_get h]; rfl
theorem at_map {α : Type} (enc : α → PyData) {r : List α} {n : Nat} {x : α} (h : r[n]? = some x) : L2.atI (r.map enc) (Int.ofNat n) = some (enc x) := by
  have hl := (List.getElem?_eq_some_iff.mp h).1
  unfold L2.atI L2.ixN
  rw [if_pos (show (0 : Int) ≤ Int.ofNat n from Int.natCast_nonneg n), if_pos (by rw [List.length_map]; exact Int.ofNat_lt.mpr hl)]
  show (r.map enc)[n]? = _
  rw [List.getElem?_map, h]; rfl
theorem zip_eN : ∀ a b : List Nat, zipD (a.map eN) (b.map eN) = (a.zip b).map fun x => PyData.tuple [eN x.1, eN x.2]
  | [], _ => rfl
  | _ :: _, [] => rfl
  | x :: a, y :: b => by
    show PyData.tuple [eN x, eN y] :: zipD (a.map eN) (b.map eN) = _
    rw [zip_eN a b]; rfl
def lessP (p c : Nat) : List Nat → List Nat → List Nat
  | a :: as, b :: bs => (a + (p - c) * b) % p :: lessP p c as bs
  | _, _ => []
theorem less_zip (p c : Nat) : ∀ a b : List Nat, lessP p c a b = (a.zip b).map fun x => (x.1 + (p - c) * x.2) % p
  | [], _ => rfl
  | _ :: _, [] => rfl
  | x :: a, y :: b => by
    show (x + (p - c) * y) % p :: lessP p c a b = _
    rw [less_zip p c a b]; rfl
theorem less_int {p c a b : Nat} (hp : 0 < p) (hc : c ≤ p) : (Int.ofNat a - Int.ofNat c * Int.ofNat b) % Int.ofNat p = Int.ofNat ((a + (p - c) * b) % p) := by
  have e : (Int.ofNat a - Int.ofNat c * Int.ofNat b) + (p : Int) * (b : Int) = ((a + (p - c) * b : Nat) : Int) := by
    have e1 : ((p - c : Nat) : Int) = (p : Int) - (c : Int) := by omega
    rw [Int.natCast_add, Int.natCast_mul, e1, Int.sub_mul]
    show (a : Int) - (c : Int) * (b : Int) + (p : Int) * (b : Int) = _
    omega
  have e2 := Int.add_mul_emod_self_left (a := Int.ofNat a - Int.ofNat c * Int.ofNat b) (b := (p : Int)) (c := (b : Int))
  rw [e] at e2
  exact e2.symm
end Pl
set_option Elab.async false
set_option linter.all false
set_option maxRecDepth 100000
set_option maxHeartbeats 4000000
namespace Pl
open PySem Ly Mf L2
theorem less_len (p c : Nat) : ∀ a b : List Nat, (lessP p c a b).length ≤ a.length
  | [], _ => Nat.le_refl 0
  | _ :: _, [] => Nat.zero_le _
  | x :: a, y :: b => Nat.succ_le_succ (less_len p c a b)
theorem less_len2 (p c : Nat) : ∀ {a b : List Nat}, a.length = b.length → (lessP p c a b).length = a.length
  | [], _, _ => rfl
  | x :: a, y :: b, h => congrArg Nat.succ (less_len2 p c (Nat.succ.inj h))
theorem less_lt {p c : Nat} (hp : 0 < p) : ∀ a b : List Nat, ∀ x ∈ lessP p c a b, x < p
  | [], _, _, h => by cases h
  | _ :: _, [], _, h => by cases h
  | x :: a, y :: b, z, h => by
    rcases List.mem_cons.mp h with e | h
    · rw [e]; exact Nat.mod_lt _ hp
    · exact less_lt hp a b z h
theorem less_go {p spot : Nat} {row first : List Nat} {me : ME} {r : List Sl} (hp : 0 < p) (hs : spot < row.length) (hc : nth row spot ≤ p)
    (h : ∀ x : Nat × Nat, ∃ r1, setT (.pr 4 5) (.tuple [eN x.1, eN x.2]) r = some r1 ∧ me r1 = some (.int ((Int.ofNat x.1 - Int.ofNat (nth row spot) * Int.ofNat x.2) % Int.ofNat p))) :
    lcGo (.pr 4 5) mYes me r (zipD (row.map eN) (first.map eN)) = some ((lessP p (nth row spot) row first).map eN) := by
  rw [zip_eN, less_zip, List.map_map]
  refine lcGo_all (fun x => PyData.tuple [eN x.1, eN x.2]) (fun x => eN ((x.1 + (p - nth row spot) * x.2) % p)) (row.zip first) fun x _ => ?_
  obtain ⟨r1, h1, h2⟩ := h x
  refine ⟨r1, h1, ?_⟩
  rw [h2, less_int hp hc]
section
variable {p spot : Nat} {row first : List Nat}
theorem less_m (hp : 0 < p) (hs : spot < row.length) (hc : nth row spot < p) (hp2 : p < 1000000) (hl : row.length ≤ 100000) :
    m_lessened_row [eN p, eR row, eR first, eN spot] = some (eR (lessP p (nth row spot) row first)) := by
  refine mFn_rt rfl (ret_ok (tupOf_l (lc_ok (ds := zipD (row.map eN) (first.map eN)) rfl (less_go hp hs (Nat.le_of_lt hc) fun x => ⟨[.val (eN p), .val (eR row), .val (eR first), .val (eN spot), .val (eN x.1), .val (eN x.2)], rfl, ?_⟩) ?_)))
  · have hm : mBin gMul (mIx (mVar 1) (mVar 3)) (mVar 5) [.val (eN p), .val (eR row), .val (eR first), .val (eN spot), .val (eN x.1), .val (eN x.2)] = some (.int (Int.ofNat (nth row spot) * Int.ofNat x.2)) :=
      bin_ok (iM_of (ix_ok (d := eR row) rfl rfl (j := Int.ofNat spot) rfl (at_eN hs))) (j := Int.ofNat x.2) rfl (mul_ok (Int.lt_of_lt_of_le (by decide) (Int.natCast_nonneg _)) (Int.lt_of_lt_of_le (Int.ofNat_lt.mpr (Nat.lt_trans hc hp2)) (by decide)))
    exact bin_ok (iM_of (bin_ok (i := Int.ofNat x.1) rfl (iM_of hm) rfl)) (j := Int.ofNat p) rfl (mod_ok (Int.ofNat_lt.mpr hp))
  · rw [List.length_map]
    exact Nat.le_trans (less_len _ _ _ _) hl
theorem lawless_m (hp : 0 < p) (hs : spot < row.length) (hc : nth row spot < p) (hp2 : p < 1000000) (hl : row.length ≤ 100000) :
    m__law_less [eN p, eR row, eR first, eN spot] = some (eR (lessP p (nth row spot) row first)) := by
  refine mFn_rt rfl (ret_ok (tupOf_l (lc_ok (ds := zipD (row.map eN) (first.map eN)) rfl (less_go hp hs (Nat.le_of_lt hc) fun x => ⟨[.val (eN p), .val (eR row), .val (eR first), .val (eN spot), .val (eN x.1), .val (eN x.2)], rfl, ?_⟩) ?_)))
  · have hm : mBin gMul (mIx (mVar 1) (mVar 3)) (mVar 5) [.val (eN p), .val (eR row), .val (eR first), .val (eN spot), .val (eN x.1), .val (eN x.2)] = some (.int (Int.ofNat (nth row spot) * Int.ofNat x.2)) :=
      bin_ok (iM_of (ix_ok (d := eR row) rfl rfl (j := Int.ofNat spot) rfl (at_eN hs))) (j := Int.ofNat x.2) rfl (mul_ok (Int.lt_of_lt_of_le (by decide) (Int.natCast_nonneg _)) (Int.lt_of_lt_of_le (Int.ofNat_lt.mpr (Nat.lt_trans hc hp2)) (by decide)))
    exact bin_ok (iM_of (int_ok (iM_of (bin_ok (i := Int.ofNat x.1) rfl (iM_of hm) rfl)))) (j := Int.ofNat p) rfl (mod_ok (Int.ofNat_lt.mpr hp))
  · rw [List.length_map]
    exact Nat.le_trans (less_len _ _ _ _) hl
end
/-! powers -/
theorem smallI {a : Nat} (h : a < 1000000) : -18446744073709551616 < Int.ofNat a ∧ Int.ofNat a < 18446744073709551616 := ⟨Int.lt_of_lt_of_le (by decide) (Int.natCast_nonneg _), Int.lt_of_lt_of_le (Int.ofNat_lt.mpr h) (by decide)⟩
theorem mulmod {a b p : Nat} (hp : 0 < p) (ha : a < 1000000) {r : List Sl} {ma mb mp : ME} (h1 : iM ma r = some (Int.ofNat a)) (h2 : iM mb r = some (Int.ofNat b)) (h3 : iM mp r = some (Int.ofNat p)) : mBin gMod (mBin gMul ma mb) mp r = some (eN (a * b % p)) :=
  bin_ok (iM_of (bin_ok h1 h2 (mul_ok (smallI ha).1 (smallI ha).2))) h3 (mod_ok (Int.ofNat_lt.mpr hp))
abbrev pwT : MB := mCmpB pGt (mVar 2) (mC (.int 0))
abbrev pwM : MS := mSeq2 (mIfS (mCmpB pEq (mBin gMod (mVar 2) (mC (.int 2))) (mC (.int 1))) (mSet 3 (mBin gMod (mBin gMul (mVar 3) (mVar 4)) (mVar 0))) mSkip) (mSeq2 (mSet 4 (mBin gMod (mBin gMul (mVar 4) (mVar 4)) (mVar 0))) (mSet 2 (mBin gDiv (mVar 2) (mC (.int 2)))))
theorem pw_go {p : Nat} (hp : 0 < p) (hp2 : p < 1000000) (x : Sl) : ∀ (fuel e f l : Nat), e < fuel → f < p → l < 1000000 → ∃ l', whGo pwT pwM fuel [.val (eN p), x, .val (eN e), .val (eN f), .val (eN l)] = some (.nx [.val (eN p), x, .val (eN 0), .val (eN (f * l ^ e % p)), l'])
  | 0, e, f, l, h, _, _ => by omega
  | n + 1, e, f, l, h, hf, hl => by
    have t1 : pwT [.val (eN p), x, .val (eN e), .val (eN f), .val (eN l)] = some (decide ((0 : Int) < Int.ofNat e)) := cmp_ok (i := Int.ofNat e) (j := 0) rfl rfl
    have w : whGo pwT pwM (n + 1) [.val (eN p), x, .val (eN e), .val (eN f), .val (eN l)] = (if decide ((0 : Int) < Int.ofNat e) = true then (pwM [.val (eN p), x, .val (eN e), .val (eN f), .val (eN l)]).bind (fun o => match o with
        | .nx r2 => whGo pwT pwM n r2
        | .rt e => some (.rt e)) else some (.nx [.val (eN p), x, .val (eN e), .val (eN f), .val (eN l)])) := by
      show (pwT _).bind _ = _
      rw [t1]; rfl
    rw [w]
    by_cases he : e = 0
    · subst he
      refine ⟨.val (eN l), ?_⟩
      rw [if_neg (by simp), Nat.pow_zero, Nat.mul_one, Nat.mod_eq_of_lt hf]
    · have he2 : (0 : Int) < Int.ofNat e := Int.ofNat_lt.mpr (Nat.pos_of_ne_zero he)
      rw [if_pos (decide_eq_true he2)]
      have hf' : (if e % 2 = 1 then f * l % p else f) < p := by
        split
        · exact Nat.mod_lt _ hp
        · exact hf
      obtain ⟨l', ih⟩ := pw_go hp hp2 x n (e / 2) (if e % 2 = 1 then f * l % p else f) (l * l % p) (by omega) hf' (Nat.lt_trans (Nat.mod_lt _ hp) hp2)
      refine ⟨l', ?_⟩
      have b1 : mIfS (mCmpB pEq (mBin gMod (mVar 2) (mC (.int 2))) (mC (.int 1))) (mSet 3 (mBin gMod (mBin gMul (mVar 3) (mVar 4)) (mVar 0))) mSkip [.val (eN p), x, .val (eN e), .val (eN f), .val (eN l)] = some (.nx [.val (eN p), x, .val (eN e), .val (eN (if e % 2 = 1 then f * l % p else f)), .val (eN l)]) := by
        have t : mCmpB pEq (mBin gMod (mVar 2) (mC (.int 2))) (mC (.int 1)) [.val (eN p), x, .val (eN e), .val (eN f), .val (eN l)] = some (pEq (Int.ofNat (e % 2)) 1) :=
          cmp_ok (iM_of (bin_ok (i := Int.ofNat e) (j := 2) rfl rfl (mod_ok (by decide)))) rfl
        have z : pEq (Int.ofNat (e % 2)) 1 = decide (e % 2 = 1) := by
          rcases Nat.mod_two_eq_zero_or_one e with q | q <;> rw [q] <;> rfl
        rw [z] at t
        by_cases q : e % 2 = 1
        · rw [if_pos q]
          rw [decide_eq_true q] at t
          exact if_t t (set_ok (mulmod (a := f) (b := l) (p := p) hp (Nat.lt_trans hf hp2) rfl rfl rfl))
        · rw [if_neg q]
          rw [decide_eq_false q] at t
          exact if_f t rfl
      have b : pwM [.val (eN p), x, .val (eN e), .val (eN f), .val (eN l)] = some (.nx [.val (eN p), x, .val (eN (e / 2)), .val (eN (if e % 2 = 1 then f * l % p else f)), .val (eN (l * l % p))]) :=
        seq_nx b1 (seq_nx (set_ok (mulmod (a := l) (b := l) (p := p) hp hl rfl rfl rfl)) (set_ok (bin_ok (i := Int.ofNat e) (j := 2) rfl rfl (if_pos ⟨by decide, by decide⟩))))
      rw [b]
      show whGo pwT pwM n _ = _
      rw [ih]
      have e1 : (if e % 2 = 1 then f * l % p else f) * (l * l % p) ^ (e / 2) % p = f * l ^ e % p := by
        have hd : e = 2 * (e / 2) + e % 2 := (Nat.div_add_mod e 2).symm
        have hsq : l * l = l ^ 2 := by rw [Nat.pow_two]
        rcases Nat.mod_two_eq_zero_or_one e with q | q
        · rw [if_neg (by omega), Nat.mul_mod, ← Nat.pow_mod, ← Nat.mul_mod, hsq, ← Nat.pow_mul]
          rw [q, Nat.add_zero] at hd
          rw [← hd]
        · rw [if_pos q, Nat.mul_mod, Nat.mod_mod, ← Nat.pow_mod, ← Nat.mul_mod, hsq, ← Nat.pow_mul]
          rw [q] at hd
          have e3 : l ^ e = l * l ^ (2 * (e / 2)) := by
            have e4 : l ^ e = l ^ (2 * (e / 2) + 1) := by rw [← hd]
            rw [e4, Nat.pow_succ, Nat.mul_comm]
          rw [e3, Nat.mul_assoc]
      rw [e1]
theorem pow_m {p a e : Nat} (hp : 1 < p) (hp2 : p < 1000000) (ha : a < 1000000) (he : e < 1000) : m_power_at [eN p, eN a, eN e] = some (eN (a ^ e % p)) := by
  obtain ⟨l', h⟩ := pw_go (p := p) (by omega) hp2 (.val (eN a)) 1000 e 1 a he hp ha
  rw [Nat.one_mul] at h
  refine mFn_rt rfl (seq_nx (r1 := [.val (eN p), .val (eN a), .val (eN e), .val (eN 1), .val (eN a)]) rfl (seq_nx h (ret_ok rfl)))
def ledP (p b : Nat) (row : List Nat) : List Nat := row.map fun x => x * b % p
def invP (p a : Nat) : Nat := a ^ (p - 2) % p
theorem led_go {p b : Nat} {row : List Nat} {r : List Sl} {me : ME} {k : Nat} (h : ∀ x ∈ row, ∃ r1, setT (.nm k) (eN x) r = some r1 ∧ me r1 = some (eN (x * b % p))) : lcGo (.nm k) mYes me r (row.map eN) = some ((ledP p b row).map eN) := by
  unfold ledP
  rw [List.map_map]
  exact lcGo_all eN (fun x => eN (x * b % p)) row h
theorem led_m {p spot : Nat} {row : List Nat} (hp : 1 < p) (hp2 : p < 1000) (hs : spot < row.length) (hl : row.length ≤ 100000) (hr : ∀ x ∈ row, x < p) : m_led_row [eN p, eR row, eN spot] = some (eR (ledP p (invP p (nth row spot)) row)) := by
  have hb : mCall m_power_at (mCons (mVar 0) (mCons (mIx (mVar 1) (mVar 2)) (mCons (mBin gSub (mVar 0) (mC (.int 2))) mNil))) [.val (eN p), .val (eR row), .val (eN spot), .no, .no] = some (eN (invP p (nth row spot))) := by
    have hq : mBin gSub (mVar 0) (mC (.int 2)) [.val (eN p), .val (eR row), .val (eN spot), .no, .no] = some (eN (p - 2)) := by
      have e : (Int.ofNat p - 2 : Int) = Int.ofNat (p - 2) := by
        show ((p : Int) - 2) = ((p - 2 : Nat) : Int)
        omega
      have h := bin_ok (r := [.val (eN p), .val (eR row), .val (eN spot), .no, .no]) (ma := mVar 0) (mb := mC (.int 2)) (g := Ly.gSub) (i := Int.ofNat p) (j := 2) (k := Int.ofNat p - 2) rfl rfl rfl
      rw [e] at h
      exact h
    refine call_ok (cons_ok (d := eN p) rfl (cons_ok (ix_ok (d := eR row) rfl rfl (j := Int.ofNat spot) rfl (at_eN hs)) (cons_ok hq nil_ok))) (pow_m hp (by omega) ?_ (by omega))
    have := hr _ (nth_mem hs)
    omega
  refine mFn_rt rfl (seq_nx (set_ok hb) (ret_ok (tupOf_l (lc_ok (ds := row.map eN) rfl (led_go (p := p) (b := invP p (nth row spot)) fun x hx => ⟨[.val (eN p), .val (eR row), .val (eN spot), .val (eN (invP p (nth row spot))), .val (eN x)], rfl, mulmod (by omega) (by have := hr x hx; omega) rfl rfl rfl⟩) ?_))))
  unfold ledP
  rw [List.length_map, List.length_map]
  exact hl
end Pl
set_option Elab.async false
set_option linter.all false
set_option maxRecDepth 100000
set_option maxHeartbeats 4000000
namespace Pl
open PySem Ly Mf L2
theorem lenpos_t {me : ME} {r : List Sl} {d e : PyData} {ds : List PyData} (h : me r = some d) (hd : asSeq d = some (e :: ds)) : mCmpB pGt (mLen me) (mC (.int 0)) r = some true := by
  rw [cmp_ok (p := pGt) (i := ((e :: ds).length : Nat)) (j := 0) (iM_of (len_ok h hd)) rfl]
  exact congrArg some (decide_eq_true (by rw [List.length_cons]; omega))
theorem lenpos_f {me : ME} {r : List Sl} {d : PyData} (h : me r = some d) (hd : asSeq d = some []) : mCmpB pGt (mLen me) (mC (.int 0)) r = some false := by
  rw [cmp_ok (p := pGt) (i := (([] : List PyData).length : Nat)) (j := 0) (iM_of (len_ok h hd)) rfl]
  rfl
theorem rg_eN (n : Nat) : rgD 0 (Int.ofNat n) = (List.range n).map eN := by
  unfold rgD
  have e : (Int.ofNat n - 0).toNat = n := by show ((n : Int) - 0).toNat = n; omega
  rw [e]
  refine List.map_congr_left fun k _ => ?_
  show PyData.int (0 + (k : Int)) = PyData.int (Int.ofNat k)
  rw [Int.zero_add]; rfl
theorem okRg_eN {n : Nat} (h : n ≤ 100000) : okRg 0 (Int.ofNat n) = true := decide_eq_true ⟨by decide, by decide, Int.le_trans (by decide) (Int.natCast_nonneg n), Int.ofNat_le.mpr h⟩
def GoodR (p w : Nat) (r : List Nat) : Prop := r.length = w ∧ ∀ x ∈ r, x < p
def Good (p w : Nat) (rows : List (List Nat)) : Prop := rows.length ≤ 50000 ∧ ∀ r ∈ rows, GoodR p w r
theorem GoodR.nth {p w s : Nat} {r : List Nat} (h : GoodR p w r) (hs : s < w) : nth r s < p := h.2 _ (nth_mem (by rw [h.1]; exact hs))
theorem GoodR.less {p w c : Nat} {r f : List Nat} (hp : 0 < p) (h : GoodR p w r) (hf : GoodR p w f) : GoodR p w (lessP p c r f) := ⟨by rw [less_len2 p c (h.1.trans hf.1.symm)]; exact h.1, less_lt hp r f⟩
theorem GoodR.led {p w b : Nat} {r : List Nat} (hp : 0 < p) (h : GoodR p w r) : GoodR p w (ledP p b r) := by
  refine ⟨by unfold ledP; rw [List.length_map]; exact h.1, fun x hx => ?_⟩
  obtain ⟨y, _, e⟩ := List.mem_map.mp hx
  rw [← e]
  exact Nat.mod_lt _ hp
def lessAll (p s : Nat) (f : List Nat) (rows : List (List Nat)) : List (List Nat) := rows.map fun r => lessP p (nth r s) r f
theorem Good.less {p w s : Nat} {f : List Nat} {rows : List (List Nat)} (hp : 0 < p) (hf : GoodR p w f) (h : Good p w rows) : Good p w (lessAll p s f rows) := by
  refine ⟨by unfold lessAll; rw [List.length_map]; exact h.1, fun r hr => ?_⟩
  obtain ⟨q, hq, e⟩ := List.mem_map.mp hr
  rw [← e]
  exact (h.2 q hq).less hp hf
/-- one column: by the first row that stands there -/
def stepA (p : Nat) (st : List (List Nat) × List (List Nat)) (s : Nat) : List (List Nat) × List (List Nat) :=
  match st.1.filter (fun r => decide (0 < nth r s)) with
  | [] => st
  | f :: _ => (lessAll p s (ledP p (invP p (nth f s)) f) st.1, lessAll p s (ledP p (invP p (nth f s)) f) st.2 ++ [ledP p (invP p (nth f s)) f])
def redA (p : Nat) (rows : List (List Nat)) (w : Nat) : List (List Nat) := ((List.range w).foldl (stepA p) (rows, [])).2
def GoodS (p w n : Nat) (st : List (List Nat) × List (List Nat)) : Prop := Good p w st.1 ∧ st.2.length + n ≤ 1000 ∧ ∀ r ∈ st.2, GoodR p w r
theorem firsts_m {p s w : Nat} {rows : List (List Nat)} {k : Nat} {r : List Sl} {mt : MB} (hs : s < w) (h : ∀ x ∈ rows, GoodR p w x)
    (hm : ∀ x ∈ rows, ∃ r1, setT (.nm k) (eR x) r = some r1 ∧ mt r1 = some (decide (0 < nth x s)) ∧ mVar k r1 = some (eR x)) : lcGo (.nm k) mt (mVar k) r (rows.map eR) = some ((rows.filter fun x => decide (0 < nth x s)).map eR) :=
  lcGo_map eR (fun x => decide (0 < nth x s)) eR rows fun x hx => by
    obtain ⟨r1, h1, h2, h3⟩ := hm x hx
    exact ⟨r1, h1, h2, fun _ => h3⟩
abbrev lsM (i : Nat) : ML := mLc (mSeq (mVar i)) (.nm 8) mYes (mCall m_lessened_row (mCons (mVar 0) (mCons (mVar 8) (mCons (mVar 7) (mCons (mVar 5) mNil))))) [8]
theorem ls_m {p w s i : Nat} {f : List Nat} {rows : List (List Nat)} {r1 r2 r3 r4 r6 : Sl} (hp : 1 < p) (hp2 : p < 1000) (hs : s < w) (hw : w ≤ 1000) (hl : rows.length ≤ 50000) (hr : ∀ x ∈ rows, GoodR p w x) (hi : mVar i [.val (eN p), r1, r2, r3, r4, .val (eN s), r6, .val (eR f), .no] = some (.list (rows.map eR))) :
    lsM i [.val (eN p), r1, r2, r3, r4, .val (eN s), r6, .val (eR f), .no] = some ((lessAll p s f rows).map eR) := by
  refine lc_ok (seq_ok hi rfl) ?_ (by rw [List.length_map]; unfold lessAll; rw [List.length_map]; omega)
  unfold lessAll
  rw [List.map_map]
  refine lcGo_all eR (fun x => eR (lessP p (nth x s) x f)) rows fun x hx => ⟨[.val (eN p), r1, r2, r3, r4, .val (eN s), r6, .val (eR f), .val (eR x)], rfl, ?_⟩
  have g := hr x hx
  exact call_ok (cons_ok (d := eN p) rfl (cons_ok (d := eR x) rfl (cons_ok (d := eR f) rfl (cons_ok (d := eN s) rfl nil_ok)))) (less_m (by omega) (by rw [g.1]; exact hs) (g.nth hs) (by omega) (by rw [g.1]; omega))
abbrev redM : MS := mSeq2 (mSet 6 (lM (mLc (mSeq (mVar 3)) (.nm 8) (mCmpB pGt (mIx (mVar 8) (mVar 5)) (mC (.int 0))) (mVar 8) [8]))) (mIfS (mCmpB pGt (mLen (mVar 6)) (mC (.int 0))) (mSeq2 (mSet 7 (mCall m_led_row (mCons (mVar 0) (mCons (mIx (mVar 6) (mC (.int 0))) (mCons (mVar 5) mNil))))) (mSeq2 (mSet 3 (lM (lsM 3))) (mSet 4 (lM (mLst (mStar (lM (lsM 4)) (mCons (mVar 7) mNil))))))) mSkip)
def redR (p w : Nat) (d : PyData) (wide : Nat) (ys : List Nat) (st : List (List Nat) × List (List Nat)) (r : List Sl) : Prop := GoodS p w ys.length st ∧ ∃ j5 j6 j7, r = [.val (eN p), .val d, .val (eN wide), .val (.list (st.1.map eR)), .val (.list (st.2.map eR)), j5, j6, j7, .no]
theorem red_step {p w wide s : Nat} {d : PyData} {ys : List Nat} {st : List (List Nat) × List (List Nat)} {r : List Sl} (hp : 1 < p) (hp2 : p < 1000) (hw2 : w ≤ 1000) (hs2 : s < w) (hr : redR p w d wide (s :: ys) st r) :
    ∃ r1 r2, setT (.nm 5) (eN s) r = some r1 ∧ redM r1 = some (.nx r2) ∧ redR p w d wide ys (stepA p st s) r2 := by
  obtain ⟨⟨g1, g2, g3⟩, j5, j6, j7, e⟩ := hr
  subst e
  have f1 := firsts_m (p := p) (k := 8) (rows := st.1) (r := [.val (eN p), .val d, .val (eN wide), .val (.list (st.1.map eR)), .val (.list (st.2.map eR)), .val (eN s), j6, j7, .no]) (mt := mCmpB pGt (mIx (mVar 8) (mVar 5)) (mC (.int 0))) hs2 g1.2 fun x hx =>
    ⟨[.val (eN p), .val d, .val (eN wide), .val (.list (st.1.map eR)), .val (.list (st.2.map eR)), .val (eN s), j6, j7, .val (eR x)], rfl, by
      have q := cmp_ok (p := pGt) (r := [.val (eN p), .val d, .val (eN wide), .val (.list (st.1.map eR)), .val (.list (st.2.map eR)), .val (eN s), j6, j7, .val (eR x)]) (ma := mIx (mVar 8) (mVar 5)) (mb := mC (.int 0)) (i := Int.ofNat (nth x s)) (j := 0) (iM_of (ix_ok (d := eR x) rfl rfl (j := Int.ofNat s) rfl (at_eN (by rw [(g1.2 x hx).1]; exact hs2)))) rfl
      rw [q]
      exact congrArg some (by
        have e : ((0 : Int) < Int.ofNat (nth x s)) ↔ 0 < nth x s := ⟨fun z => Int.ofNat_lt.mp z, fun z => Int.ofNat_lt.mpr z⟩
        exact decide_eq_decide.mpr e), rfl⟩
  have s6 : mSet 6 (lM (mLc (mSeq (mVar 3)) (.nm 8) (mCmpB pGt (mIx (mVar 8) (mVar 5)) (mC (.int 0))) (mVar 8) [8])) [.val (eN p), .val d, .val (eN wide), .val (.list (st.1.map eR)), .val (.list (st.2.map eR)), .val (eN s), j6, j7, .no] = some (.nx [.val (eN p), .val d, .val (eN wide), .val (.list (st.1.map eR)), .val (.list (st.2.map eR)), .val (eN s), .val (.list ((st.1.filter fun x => decide (0 < nth x s)).map eR)), j7, .no]) :=
    set_ok (lM_ok (lc_ok (ds := st.1.map eR) rfl f1 (by rw [List.length_map]; have := List.length_filter_le (fun x => decide (0 < nth x s)) st.1; have := g1.1; omega)))
  have hsz : st.2.length + ys.length + 1 ≤ 1000 := g2
  cases hf : st.1.filter (fun x => decide (0 < nth x s)) with
  | nil =>
    rw [hf] at s6
    refine ⟨[.val (eN p), .val d, .val (eN wide), .val (.list (st.1.map eR)), .val (.list (st.2.map eR)), .val (eN s), j6, j7, .no], _, rfl, seq_nx s6 (if_f (lenpos_f (d := .list []) rfl rfl) rfl), ?_⟩
    have e : stepA p st s = st := by unfold stepA; rw [hf]
    rw [e]
    exact ⟨⟨g1, by omega, g3⟩, .val (eN s), .val (.list []), j7, rfl⟩
  | cons f fs =>
    rw [hf] at s6
    have fm : f ∈ st.1 := (List.mem_filter.mp (by rw [hf]; exact List.mem_cons_self .. : f ∈ st.1.filter fun x => decide (0 < nth x s))).1
    have gf := g1.2 f fm
    have s7 : mSet 7 (mCall m_led_row (mCons (mVar 0) (mCons (mIx (mVar 6) (mC (.int 0))) (mCons (mVar 5) mNil)))) [.val (eN p), .val d, .val (eN wide), .val (.list (st.1.map eR)), .val (.list (st.2.map eR)), .val (eN s), .val (.list ((f :: fs).map eR)), j7, .no] = some (.nx [.val (eN p), .val d, .val (eN wide), .val (.list (st.1.map eR)), .val (.list (st.2.map eR)), .val (eN s), .val (.list ((f :: fs).map eR)), .val (eR (ledP p (invP p (nth f s)) f)), .no]) :=
      set_ok (call_ok (cons_ok (d := eN p) rfl (cons_ok (ix_ok (d := .list ((f :: fs).map eR)) rfl rfl (j := Int.ofNat 0) rfl (at_map eR (n := 0) rfl)) (cons_ok (d := eN s) rfl nil_ok))) (led_m hp hp2 (by rw [gf.1]; exact hs2) (by rw [gf.1]; omega) gf.2))
    have gl : GoodR p w (ledP p (invP p (nth f s)) f) := gf.led (by omega)
    have e : stepA p st s = (lessAll p s (ledP p (invP p (nth f s)) f) st.1, lessAll p s (ledP p (invP p (nth f s)) f) st.2 ++ [ledP p (invP p (nth f s)) f]) := by unfold stepA; rw [hf]
    generalize ledP p (invP p (nth f s)) f = F at s7 gl e
    have s3 : mSet 3 (lM (lsM 3)) [.val (eN p), .val d, .val (eN wide), .val (.list (st.1.map eR)), .val (.list (st.2.map eR)), .val (eN s), .val (.list ((f :: fs).map eR)), .val (eR F), .no] = some (.nx [.val (eN p), .val d, .val (eN wide), .val (.list ((lessAll p s F st.1).map eR)), .val (.list (st.2.map eR)), .val (eN s), .val (.list ((f :: fs).map eR)), .val (eR F), .no]) :=
      set_ok (lM_ok (ls_m (i := 3) hp hp2 hs2 hw2 g1.1 g1.2 rfl))
    have s4 : mSet 4 (lM (mLst (mStar (lM (lsM 4)) (mCons (mVar 7) mNil)))) [.val (eN p), .val d, .val (eN wide), .val (.list ((lessAll p s F st.1).map eR)), .val (.list (st.2.map eR)), .val (eN s), .val (.list ((f :: fs).map eR)), .val (eR F), .no] = some (.nx [.val (eN p), .val d, .val (eN wide), .val (.list ((lessAll p s F st.1).map eR)), .val (.list ((lessAll p s F st.2 ++ [F]).map eR)), .val (eN s), .val (.list ((f :: fs).map eR)), .val (eR F), .no]) := by
      refine set_ok (lM_ok ?_)
      have q : mStar (lM (lsM 4)) (mCons (mVar 7) mNil) [.val (eN p), .val d, .val (eN wide), .val (.list ((lessAll p s F st.1).map eR)), .val (.list (st.2.map eR)), .val (eN s), .val (.list ((f :: fs).map eR)), .val (eR F), .no] = some ((lessAll p s F st.2).map eR ++ [eR F]) := by
        unfold mStar
        rw [lM_ok (ls_m (i := 4) hp hp2 hs2 hw2 (by omega) g3 rfl)]
        rfl
      unfold mLst
      rw [q, List.map_append]
      have hz : okSz ((lessAll p s F st.2).map eR ++ [eR F]) = true := decide_eq_true (by
        rw [List.length_append, List.length_map]
        unfold lessAll
        rw [List.length_map]
        simp only [List.length_cons, List.length_nil]
        omega)
      exact if_pos hz
    refine ⟨[.val (eN p), .val d, .val (eN wide), .val (.list (st.1.map eR)), .val (.list (st.2.map eR)), .val (eN s), j6, j7, .no], _, rfl, seq_nx s6 (if_t (lenpos_t (d := .list ((f :: fs).map eR)) (e := eR f) (ds := fs.map eR) rfl rfl) (seq_nx s7 (seq_nx s3 s4))), ?_⟩
    rw [e]
    refine ⟨⟨g1.less (by omega) gl, ?_, fun r hr => ?_⟩, .val (eN s), .val (.list ((f :: fs).map eR)), .val (eR F), rfl⟩
    · show (lessAll p s F st.2 ++ [F]).length + ys.length ≤ 1000
      rw [List.length_append]
      unfold lessAll
      rw [List.length_map]
      simp only [List.length_cons, List.length_nil]
      omega
    · rcases List.mem_append.mp hr with q | q
      · obtain ⟨z, hz, ez⟩ := List.mem_map.mp q
        rw [← ez]
        exact (g3 z hz).less (by omega) gl
      · rw [List.mem_singleton.mp q]; exact gl
theorem reduced_m {p w wide : Nat} {rows : List (List Nat)} {d : PyData} (hp : 1 < p) (hp2 : p < 1000) (hw : wide ≤ w) (hw2 : w ≤ 1000) (h : Good p w rows) (hd : asSeq d = some (rows.map eR)) : m_reduced_by [eN p, d, eN wide] = some (.tuple ((redA p rows wide).map eR)) := by
  have start : mPar 3 4 (sV (lM (mLc (mSeq (mVar 1)) (.nm 8) mYes (mTupOf (mVar 8)) [8]))) (sV (lM (mLst mNil))) [.val (eN p), .val d, .val (eN wide), .no, .no, .no, .no, .no, .no] = some (.nx [.val (eN p), .val d, .val (eN wide), .val (.list (rows.map eR)), .val (.list []), .no, .no, .no, .no]) := by
    have e : lM (mLc (mSeq (mVar 1)) (.nm 8) mYes (mTupOf (mVar 8)) [8]) [.val (eN p), .val d, .val (eN wide), .no, .no, .no, .no, .no, .no] = some (.list (rows.map eR)) :=
      lM_ok (lc_ok (seq_ok (d := d) rfl hd) (lcGo_all eR eR rows fun x _ => ⟨[.val (eN p), .val d, .val (eN wide), .no, .no, .no, .no, .no, .val (eR x)], rfl, rfl⟩) (by rw [List.length_map]; have := h.1; omega))
    unfold mPar sV
    rw [e]; rfl
  refine mFn_rt rfl (seq_nx start ?_)
  obtain ⟨r', h1, h2⟩ := forGo_fold2 (redR p w d wide) eN (stepA p) (tg := .nm 5) (m := redM) (List.range wide) (fun s hs ys st r hr => red_step hp hp2 hw2 (Nat.lt_of_lt_of_le (List.mem_range.mp hs) hw) hr) (rows, []) [.val (eN p), .val d, .val (eN wide), .val (.list (rows.map eR)), .val (.list []), .no, .no, .no, .no] ⟨⟨h, by rw [List.length_range]; exact Nat.le_trans (by simp) (Nat.le_trans hw hw2), fun r hr => by cases hr⟩, .no, .no, .no, rfl⟩
  rw [← rg_eN] at h1
  obtain ⟨_, j5, j6, j7, e⟩ := h2
  subst e
  exact seq_nx (for_ok (rg1_ok (j := Int.ofNat wide) rfl (okRg_eN (by omega))) h1) (ret_ok rfl)
end Pl
set_option Elab.async false
set_option linter.all false
set_option maxRecDepth 100000
set_option maxHeartbeats 4000000
namespace Pl
open PySem Ly Mf L2
/-- each number but 0 below p has an inverse -/
def PInv (p : Nat) : Prop := ∀ a, a < p → 0 < a → a * invP p a % p = 1
def HasNZ (r : List Nat) : Prop := ∃ x ∈ r, 0 < x
def leadP : List Nat → Nat
  | [] => 0
  | a :: as => match a with
    | 0 => leadP as + 1
    | _ + 1 => 0
theorem lead_lt : ∀ {r : List Nat}, HasNZ r → leadP r < r.length
  | [], ⟨x, hx, _⟩ => by cases hx
  | 0 :: as, ⟨x, hx, h0⟩ => by
    rcases List.mem_cons.mp hx with e | hx
    · omega
    · exact Nat.succ_lt_succ (lead_lt ⟨x, hx, h0⟩)
  | (a + 1) :: as, _ => Nat.succ_pos _
theorem enum_eN : ∀ (n : Nat) (r : List Nat), enumD n (r.map eN) = (r.zipIdx n).map fun x => PyData.tuple [eN x.2, eN x.1]
  | _, [] => rfl
  | n, a :: r => by
    show PyData.tuple [.int (n : Nat), eN a] :: enumD (n + 1) (r.map eN) = _
    rw [enum_eN (n + 1) r]; rfl
theorem lead_zip : ∀ (n : Nat) {r : List Nat}, HasNZ r → ∃ t, ((r.zipIdx n).filter fun x => decide (0 < x.1)).map (fun x => x.2) = (leadP r + n) :: t
  | _, [], ⟨x, hx, _⟩ => by cases hx
  | n, 0 :: as, ⟨x, hx, h0⟩ => by
    have h : HasNZ as := by
      rcases List.mem_cons.mp hx with e | hx
      · omega
      · exact ⟨x, hx, h0⟩
    obtain ⟨t, e⟩ := lead_zip (n + 1) h
    refine ⟨t, ?_⟩
    rw [List.zipIdx_cons, List.filter_cons_of_neg (by simp)]
    rw [e]
    show _ = (leadP as + 1 + n) :: t
    congr 1
    omega
  | n, (a + 1) :: as, _ => by
    rw [List.zipIdx_cons, List.filter_cons_of_pos (by simp)]
    exact ⟨_, by rw [List.map_cons]; show n :: _ = (0 + n) :: _; rw [Nat.zero_add]⟩
theorem pos_eN {me : ME} {r : List Sl} {x : Nat} (h : me r = some (eN x)) : mCmpB pGt me (mC (.int 0)) r = some (decide (0 < x)) := by
  rw [cmp_ok (p := pGt) (i := Int.ofNat x) (j := 0) (iM_of h) rfl]
  exact congrArg some (decide_eq_decide.mpr ⟨fun z => Int.ofNat_lt.mp z, fun z => Int.ofNat_lt.mpr z⟩)
theorem lead_m {r : List Nat} (h : HasNZ r) (hl : r.length ≤ 100000) : m_lead_of [eR r] = some (eN (leadP r)) := by
  obtain ⟨t, e⟩ := lead_zip 0 h
  have q : lcGo (.pr 1 2) (mCmpB pGt (mVar 2) (mC (.int 0))) (mVar 1) [.val (eR r), .no, .no] (enumD 0 (r.map eN)) = some ((((r.zipIdx 0).filter fun x => decide (0 < x.1)).map fun x => eN x.2)) := by
    rw [enum_eN]
    exact lcGo_map (fun x : Nat × Nat => PyData.tuple [eN x.2, eN x.1]) (fun x => decide (0 < x.1)) (fun x => eN x.2) (r.zipIdx 0) fun x _ => ⟨[.val (eR r), .val (eN x.2), .val (eN x.1)], rfl, pos_eN (x := x.1) rfl, fun _ => rfl⟩
  have e2 : (((r.zipIdx 0).filter fun x => decide (0 < x.1)).map fun x => eN x.2) = (leadP r :: t).map eN := by
    have e3 : (leadP r + 0) = leadP r := Nat.add_zero _
    rw [e3] at e
    rw [← e, List.map_map]; rfl
  rw [e2] at q
  refine mFn_rt rfl (ret_ok (ix_ok (d := .list ((leadP r :: t).map eN)) (lM_ok (lc_ok (ds := enumD 0 (r.map eN)) rfl q ?_)) rfl (j := Int.ofNat 0) rfl (at_map eN (n := 0) rfl)))
  rw [← e2, List.length_map]
  refine Nat.le_trans (List.length_filter_le _ _) ?_
  rw [List.length_zipIdx]
  exact hl
/-! one kept row -/
def unitP (w free : Nat) : List Nat := (List.range w).map fun s => if s = free then 1 else 0
def putP (p free : Nat) (found : List Nat) (x : Nat × List Nat) : List Nat := found.set x.1 ((p - nth x.2 free) % p)
def keptP (p : Nat) (red : List (List Nat)) (leads : List Nat) (w free : Nat) : List Nat := (leads.zip red).foldl (putP p free) (unitP w free)
theorem neg_int {p x : Nat} (hx : x < p) : (-Int.ofNat x) % Int.ofNat p = Int.ofNat ((p - x) % p) := by
  have e2 := Int.add_mul_emod_self_left (a := -Int.ofNat x) (b := (p : Int)) (c := 1)
  have e : -Int.ofNat x + (p : Int) * 1 = ((p - x : Nat) : Int) := by
    show -(x : Int) + (p : Int) * 1 = _
    omega
  rw [e] at e2
  exact e2.symm
theorem unit_m {w free : Nat} {r : List Sl} {k : Nat} {me : ME} (h : ∀ s : Nat, ∃ r1, setT (.nm k) (eN s) r = some r1 ∧ me r1 = some (eN (if s = free then 1 else 0))) : lcGo (.nm k) mYes me r ((List.range w).map eN) = some ((unitP w free).map eN) := by
  unfold unitP
  rw [List.map_map]
  exact lcGo_all eN _ _ fun s _ => h s
theorem one_m {a b : ME} {r : List Sl} {s free : Nat} (ha : a r = some (eN s)) (hb : b r = some (eN free)) : mIf (mCmpB pEq a b) (mC (.int 1)) (mC (.int 0)) r = some (eN (if s = free then 1 else 0)) := by
  unfold mIf
  rw [cmp_ok (p := pEq) (i := Int.ofNat s) (j := Int.ofNat free) (iM_of ha) (iM_of hb)]
  by_cases e : s = free
  · subst e
    rw [if_pos rfl]
    have : pEq (Int.ofNat s) (Int.ofNat s) = true := by simp [pEq]
    rw [this]; rfl
  · rw [if_neg e]
    have : pEq (Int.ofNat s) (Int.ofNat free) = false := by
      simp [pEq]
      omega
    rw [this]; rfl
theorem zip_lr : ∀ (leads : List Nat) (red : List (List Nat)), zipD (leads.map eN) (red.map eR) = (leads.zip red).map fun x => PyData.tuple [eN x.1, eR x.2]
  | [], _ => rfl
  | _ :: _, [] => rfl
  | a :: leads, b :: red => by
    show PyData.tuple [eN a, eR b] :: zipD (leads.map eN) (red.map eR) = _
    rw [zip_lr leads red]; rfl
theorem zip_rl : ∀ (leads : List Nat) (red : List (List Nat)), zipD (red.map eR) (leads.map eN) = (leads.zip red).map fun x => PyData.tuple [eR x.2, eN x.1]
  | [], [] => rfl
  | [], _ :: _ => rfl
  | _ :: _, [] => rfl
  | a :: leads, b :: red => by
    show PyData.tuple [eR b, eN a] :: zipD (red.map eR) (leads.map eN) = _
    rw [zip_rl leads red]; rfl
theorem put_m {i n : Nat} {k v : ME} {r : List Sl} {found : List Nat} {x : Nat} (ho : r[i]? = some (.own (found.map eN))) (hv : v r = some (eN x)) (hk : k r = some (eN n)) (hn : n < found.length) : mPut i k v r = some (.nx (r.set i (.own ((found.set n x).map eN)))) := by
  have e1 : ownD i r = some (found.map eN) := by unfold ownD; rw [ho]
  have e2 : ixN (found.map eN).length (Int.ofNat n) = some n := by
    unfold ixN
    rw [if_pos (show (0 : Int) ≤ Int.ofNat n from Int.natCast_nonneg n), if_pos (by rw [List.length_map]; exact Int.ofNat_lt.mpr hn)]
    rfl
  unfold mPut
  rw [e1]
  show (v r).bind _ = _
  rw [hv]
  show (iM k r).bind _ = _
  rw [iM_of hk]
  show (ixN (found.map eN).length (Int.ofNat n)).map _ = _
  rw [e2]
  show some (Out.nx (r.set i (.own ((found.map eN).set n (eN x))))) = _
  rw [List.map_set]
theorem kept_m {p w free : Nat} {red : List (List Nat)} {leads : List Nat} {dr : PyData} (hp : 1 < p) (hw : w ≤ 1000) (hf : free < w) (hr : ∀ r ∈ red, GoodR p w r) (hl : ∀ l ∈ leads, l < w) (hd : asSeq dr = some (red.map eR)) :
    m_kept_row [eN p, dr, .list (leads.map eN), eN w, eN free] = some (eR (keptP p red leads w free)) := by
  have s1 : mSetO 5 (mLc (mRg1 (mVar 3)) (.nm 8) mYes (mIf (mCmpB pEq (mVar 8) (mVar 4)) (mC (.int 1)) (mC (.int 0))) [8]) [.val (eN p), .val dr, .val (.list (leads.map eN)), .val (eN w), .val (eN free), .no, .no, .no, .no] = some (.nx [.val (eN p), .val dr, .val (.list (leads.map eN)), .val (eN w), .val (eN free), .own ((unitP w free).map eN), .no, .no, .no]) := by
    refine setO_ok (lc_ok (ds := (List.range w).map eN) ?_ (unit_m fun s => ⟨[.val (eN p), .val dr, .val (.list (leads.map eN)), .val (eN w), .val (eN free), .no, .no, .no, .val (eN s)], rfl, one_m rfl rfl⟩) ?_)
    · rw [← rg_eN]
      exact rg1_ok rfl (okRg_eN (by omega))
    · unfold unitP
      rw [List.length_map, List.length_map, List.length_range]
      omega
  obtain ⟨r', h1, h2⟩ := forGo_fold (fun (found : List Nat) r => found.length = w ∧ ∃ j6 j7, r = [.val (eN p), .val dr, .val (.list (leads.map eN)), .val (eN w), .val (eN free), .own (found.map eN), j6, j7, .no]) (fun x : Nat × List Nat => PyData.tuple [eN x.1, eR x.2]) (putP p free) (tg := .pr 6 7) (m := mPut 5 (mVar 6) (mBin gMod (mNeg (mIx (mVar 7) (mVar 4))) (mVar 0)))
    (leads.zip red) (fun x hx found r hr' => by
      obtain ⟨hl', j6, j7, e⟩ := hr'
      subst e
      have hx1 := hl x.1 (List.of_mem_zip hx).1
      have hx2 := hr x.2 (List.of_mem_zip hx).2
      refine ⟨[.val (eN p), .val dr, .val (.list (leads.map eN)), .val (eN w), .val (eN free), .own (found.map eN), .val (eN x.1), .val (eR x.2), .no], _, rfl, put_m (found := found) (x := (p - nth x.2 free) % p) (n := x.1) rfl ?_ rfl (by rw [hl']; exact hx1), ?_, .val (eN x.1), .val (eR x.2), rfl⟩
      · have q := bin_ok (g := gMod) (r := [.val (eN p), .val dr, .val (.list (leads.map eN)), .val (eN w), .val (eN free), .own (found.map eN), .val (eN x.1), .val (eR x.2), .no]) (ma := mNeg (mIx (mVar 7) (mVar 4))) (mb := mVar 0) (i := -Int.ofNat (nth x.2 free)) (j := Int.ofNat p)
          (iM_of (neg_ok (iM_of (ix_ok (d := eR x.2) rfl rfl (j := Int.ofNat free) rfl (at_eN (by rw [hx2.1]; exact hf)))))) rfl (mod_ok (show (0 : Int) < Int.ofNat p from Int.ofNat_lt.mpr (Nat.lt_trans Nat.zero_lt_one hp)))
        rw [neg_int (hx2.nth hf)] at q
        exact q
      · unfold putP
        rw [List.length_set]
        exact hl') (unitP w free) [.val (eN p), .val dr, .val (.list (leads.map eN)), .val (eN w), .val (eN free), .own ((unitP w free).map eN), .no, .no, .no] ⟨by unfold unitP; rw [List.length_map, List.length_range], .no, .no, rfl⟩
  obtain ⟨_, j6, j7, e⟩ := h2
  subst e
  rw [← zip_lr] at h1
  refine mFn_rt rfl (seq_nx s1 (seq_nx (for_ok (ds := zipD (leads.map eN) (red.map eR)) ?_ h1) (ret_ok rfl)))
  unfold mZip
  show (asSeq (.list (leads.map eN))).bind (fun ds => (asSeq dr).map (zipD ds)) = _
  rw [hd]; rfl
end Pl
set_option Elab.async false
set_option linter.all false
set_option maxRecDepth 100000
set_option maxHeartbeats 4000000
namespace Pl
open PySem Ly Mf L2
theorem nth_less (p c : Nat) : ∀ {a b : List Nat} {j : Nat}, j < a.length → a.length = b.length → nth (lessP p c a b) j = (nth a j + (p - c) * nth b j) % p
  | [], _, _, h, _ => by cases h
  | x :: a, [], _, _, h => by cases h
  | x :: a, y :: b, 0, _, _ => rfl
  | x :: a, y :: b, j + 1, h, e => nth_less p c (a := a) (b := b) (j := j) (Nat.lt_of_succ_lt_succ h) (Nat.succ.inj e)
theorem nth_led (p b : Nat) : ∀ {r : List Nat} {j : Nat}, j < r.length → nth (ledP p b r) j = nth r j * b % p
  | [], _, h => by cases h
  | x :: r, 0, _ => rfl
  | x :: r, j + 1, h => nth_led p b (r := r) (j := j) (Nat.lt_of_succ_lt_succ h)
theorem lead_eq : ∀ {r : List Nat} {s : Nat}, s < r.length → (∀ j, j < s → nth r j = 0) → 0 < nth r s → leadP r = s
  | [], _, h, _, _ => by cases h
  | 0 :: r, 0, _, _, h => absurd h (Nat.lt_irrefl 0)
  | (a + 1) :: r, 0, _, _, _ => rfl
  | 0 :: r, s + 1, h, z, n => by
    show leadP r + 1 = s + 1
    rw [lead_eq (Nat.lt_of_succ_lt_succ h) (fun j hj => z (j + 1) (Nat.succ_lt_succ hj)) n]
  | (a + 1) :: r, s + 1, h, z, n => absurd (z 0 (Nat.succ_pos s)) (by show ¬ (a + 1 = 0); omega)
theorem lead_zero : ∀ {r : List Nat} {j : Nat}, j < leadP r → nth r j = 0
  | [], _, h => by cases h
  | 0 :: r, 0, _ => rfl
  | 0 :: r, j + 1, h => lead_zero (r := r) (Nat.lt_of_succ_lt_succ h)
  | (a + 1) :: r, _, h => by cases h
/-- what stands behind k columns -/
structure InvF (p w k : Nat) (st : List (List Nat) × List (List Nat)) : Prop where
  gl : ∀ r ∈ st.1, GoodR p w r
  gf : ∀ r ∈ st.2, GoodR p w r
  zero : ∀ r ∈ st.1, ∀ j, j < k → nth r j = 0
  lead : ∀ r ∈ st.2, leadP r < k ∧ nth r (leadP r) = 1
def pivA (p : Nat) (left : List (List Nat)) (s : Nat) : Bool := left.any fun r => decide (0 < nth r s)
theorem lead_less {p w s c : Nat} {r F : List Nat} (hp : 1 < p) (hr : GoodR p w r) (hF : GoodR p w F) (hs : s < w) (z : ∀ j, j < s → nth F j = 0) (h : leadP r < s ∧ nth r (leadP r) = 1) : leadP (lessP p c r F) = leadP r ∧ nth (lessP p c r F) (leadP r) = 1 := by
  have hl : leadP r < r.length := by rw [hr.1]; omega
  have e : nth (lessP p c r F) (leadP r) = 1 := by
    rw [nth_less p c hl (hr.1.trans hF.1.symm), h.2, z _ h.1, Nat.mul_zero]
    exact Nat.mod_eq_of_lt hp
  refine ⟨lead_eq (by rw [less_len2 p c (hr.1.trans hF.1.symm)]; exact hl) (fun j hj => ?_) (by rw [e]; decide), e⟩
  rw [nth_less p c (Nat.lt_trans hj hl) (hr.1.trans hF.1.symm), lead_zero hj, z j (Nat.lt_trans hj h.1), Nat.mul_zero]
  exact Nat.mod_eq_of_lt (by omega)
theorem inv_step {p w s : Nat} {st : List (List Nat) × List (List Nat)} (hp : 1 < p) (hi : PInv p) (hs : s < w) (h : InvF p w s st) :
    InvF p w (s + 1) (stepA p st s) ∧ (stepA p st s).2.map leadP = st.2.map leadP ++ (if pivA p st.1 s then [s] else []) := by
  cases hf : st.1.filter (fun r => decide (0 < nth r s)) with
  | nil =>
    have e0 : stepA p st s = st := by unfold stepA; rw [hf]
    rw [e0]
    have hz : ∀ r ∈ st.1, nth r s = 0 := fun r hr => by
      have q := List.filter_eq_nil_iff.mp hf r hr
      simp at q
      exact q
    refine ⟨⟨h.gl, h.gf, fun r hr j hj => ?_, fun r hr => ⟨Nat.lt_succ_of_lt (h.lead r hr).1, (h.lead r hr).2⟩⟩, ?_⟩
    · rcases Nat.lt_or_eq_of_le (Nat.le_of_lt_succ hj) with q | q
      · exact h.zero r hr j q
      · rw [q]; exact hz r hr
    · have e : pivA p st.1 s = false := by
        unfold pivA
        rw [List.any_eq_false]
        intro r hr
        rw [hz r hr]; decide
      rw [e]
      simp
  | cons f fs =>
    obtain ⟨fm, fp⟩ := List.mem_filter.mp (by rw [hf]; exact List.mem_cons_self .. : f ∈ st.1.filter fun x => decide (0 < nth x s))
    have fp' : 0 < nth f s := of_decide_eq_true fp
    have gf := h.gl f fm
    have gF : GoodR p w (ledP p (invP p (nth f s)) f) := gf.led (by omega)
    have F1 : nth (ledP p (invP p (nth f s)) f) s = 1 := by
      rw [nth_led p _ (by rw [gf.1]; exact hs)]
      exact hi _ (gf.nth hs) fp'
    have Fz : ∀ j, j < s → nth (ledP p (invP p (nth f s)) f) j = 0 := fun j hj => by
      rw [nth_led p _ (by rw [gf.1]; omega), h.zero f fm j hj, Nat.zero_mul]
      exact Nat.zero_mod p
    have e0 : stepA p st s = (lessAll p s (ledP p (invP p (nth f s)) f) st.1, lessAll p s (ledP p (invP p (nth f s)) f) st.2 ++ [ledP p (invP p (nth f s)) f]) := by unfold stepA; rw [hf]
    rw [e0]
    generalize ledP p (invP p (nth f s)) f = F at gF F1 Fz
    have ep : pivA p st.1 s = true := by
      unfold pivA
      exact List.any_eq_true.mpr ⟨f, fm, fp⟩
    refine ⟨⟨fun r hr => ?_, fun r hr => ?_, fun r hr j hj => ?_, fun r hr => ?_⟩, ?_⟩
    · obtain ⟨q, hq, e⟩ := List.mem_map.mp hr
      rw [← e]; exact (h.gl q hq).less (by omega) gF
    · rcases List.mem_append.mp hr with hr | hr
      · obtain ⟨q, hq, e⟩ := List.mem_map.mp hr
        rw [← e]; exact (h.gf q hq).less (by omega) gF
      · rw [List.mem_singleton.mp hr]; exact gF
    · obtain ⟨q, hq, e⟩ := List.mem_map.mp hr
      have gq := h.gl q hq
      rw [← e, nth_less p _ (by rw [gq.1]; omega) (gq.1.trans gF.1.symm)]
      rcases Nat.lt_or_eq_of_le (Nat.le_of_lt_succ hj) with z | z
      · rw [h.zero q hq j z, Fz j z, Nat.mul_zero]
        exact Nat.zero_mod p
      · rw [z, F1, Nat.mul_one]
        have := gq.nth hs
        rw [show nth q s + (p - nth q s) = p by omega]
        exact Nat.mod_self p
    · rcases List.mem_append.mp hr with hr | hr
      · obtain ⟨q, hq, e⟩ := List.mem_map.mp hr
        obtain ⟨e1, e2⟩ := lead_less (c := nth q s) hp (h.gf q hq) gF hs Fz (h.lead q hq)
        rw [← e, e1]
        exact ⟨Nat.lt_succ_of_lt (h.lead q hq).1, e2⟩
      · rw [List.mem_singleton.mp hr]
        have el : leadP F = s := lead_eq (by rw [gF.1]; exact hs) Fz (by rw [F1]; decide)
        rw [el]
        exact ⟨Nat.lt_succ_self s, F1⟩
    · rw [ep, if_pos rfl]
      show (lessAll p s F st.2 ++ [F]).map leadP = _
      have el : leadP F = s := lead_eq (by rw [gF.1]; exact hs) Fz (by rw [F1]; decide)
      rw [List.map_append, List.map_cons, List.map_nil, el]
      congr 1
      unfold lessAll
      rw [List.map_map]
      exact List.map_congr_left fun q hq => (lead_less (c := nth q s) hp (h.gf q hq) gF hs Fz (h.lead q hq)).1
/-- forward alone: the columns that have a row -/
def stepF (p : Nat) (st : List (List Nat) × List Nat) (s : Nat) : List (List Nat) × List Nat :=
  match st.1.filter (fun r => decide (0 < nth r s)) with
  | [] => st
  | f :: _ => (lessAll p s (ledP p (invP p (nth f s)) f) st.1, st.2 ++ [s])
def pivF (p : Nat) (rows : List (List Nat)) (w : Nat) : List Nat := ((List.range w).foldl (stepF p) (rows, [])).2
theorem fold_inv {p w : Nat} (hp : 1 < p) (hi : PInv p) : ∀ (n : Nat) (ls : List Nat) (s : Nat) (st : List (List Nat) × List (List Nat)) (q : List Nat), ls = List.range' s n → s + n ≤ w → InvF p w s st → st.2.map leadP = q →
    InvF p w (s + n) (ls.foldl (stepA p) st) ∧ (ls.foldl (stepA p) st).2.map leadP = (ls.foldl (stepF p) (st.1, q)).2 ∧ (ls.foldl (stepF p) (st.1, q)).1 = (ls.foldl (stepA p) st).1
  | 0, ls, s, st, q, e, _, h, hq => by
    subst e
    exact ⟨h, hq, rfl⟩
  | n + 1, ls, s, st, q, e, hw, h, hq => by
    rw [List.range'_succ] at e
    subst e
    obtain ⟨h1, h2⟩ := inv_step hp hi (by omega) h
    have ef : stepF p (st.1, q) s = ((stepA p st s).1, (stepA p st s).2.map leadP) := by
      rw [h2]
      unfold stepF stepA pivA
      cases hf : st.1.filter (fun r => decide (0 < nth r s)) with
      | nil =>
        have : (st.1.any fun r => decide (0 < nth r s)) = false := by
          rw [List.any_eq_false]
          intro r hr
          exact List.filter_eq_nil_iff.mp hf r hr
        rw [this]
        simp [hq, hf]
      | cons f fs =>
        have : (st.1.any fun r => decide (0 < nth r s)) = true := by
          obtain ⟨fm, fp⟩ := List.mem_filter.mp (by rw [hf]; exact List.mem_cons_self .. : f ∈ st.1.filter fun x => decide (0 < nth x s))
          exact List.any_eq_true.mpr ⟨f, fm, fp⟩
        rw [this]
        simp [hq, hf]
    rw [List.foldl_cons, List.foldl_cons, ef]
    have := fold_inv hp hi n _ (s + 1) (stepA p st s) _ rfl (by omega) h1 rfl
    rw [show s + (n + 1) = s + 1 + n by omega]
    exact this
theorem red_inv {p w : Nat} {rows : List (List Nat)} (hp : 1 < p) (hi : PInv p) (h : ∀ r ∈ rows, GoodR p w r) : InvF p w w ((List.range w).foldl (stepA p) (rows, [])) ∧ (redA p rows w).map leadP = pivF p rows w := by
  obtain ⟨a, b, _⟩ := fold_inv (w := w) hp hi w (List.range w) 0 (rows, []) [] (by rw [List.range_eq_range']) (by omega) ⟨h, (fun r hr => by cases hr), (fun r _ j hj => by omega), (fun r hr => by cases hr)⟩ rfl
  rw [Nat.zero_add] at a
  exact ⟨a, b⟩
theorem red_good {p w : Nat} {rows : List (List Nat)} (hp : 1 < p) (hi : PInv p) (h : ∀ r ∈ rows, GoodR p w r) : ∀ r ∈ redA p rows w, GoodR p w r ∧ HasNZ r ∧ leadP r < w := fun r hr => by
  have q := (red_inv hp hi h).1
  have g := q.gf r hr
  have l := q.lead r hr
  exact ⟨g, ⟨_, nth_mem (by rw [g.1]; exact l.1), by rw [l.2]; decide⟩, l.1⟩
end Pl
set_option Elab.async false
set_option linter.all false
set_option maxRecDepth 100000
set_option maxHeartbeats 4000000
namespace Pl
open PySem Ly Mf L2
theorem notin_m {x : Nat} {ls : List Nat} {mx ml : ME} {r : List Sl} (hx : mx r = some (eN x)) (hl : (ml r).bind asSeq = some (ls.map eN)) : mInB true mx ml r = some (!(ls.contains x)) := by
  unfold mInB
  rw [iM_of hx]
  show (((ml r).bind asSeq).bind allInt).map _ = _
  rw [hl]
  have e : allInt (ls.map eN) = some (ls.map Int.ofNat) := by
    have := ints_map (ls.map Int.ofNat)
    rw [List.map_map] at this
    exact this
  show (allInt (ls.map eN)).map _ = _
  rw [e]
  show some (!((ls.map Int.ofNat).any fun n => n == Int.ofNat x)) = _
  congr 2
  rw [List.any_map, List.contains_eq_any_beq]
  congr 1
  funext n
  show (Int.ofNat n == Int.ofNat x) = (x == n)
  by_cases e : x = n
  · subst e; simp
  · have h1 : (x == n) = false := by simp [e]
    rw [h1]
    exact beq_eq_false_iff_ne.mpr fun z => e (Int.ofNat.inj z).symm
def freesP (leads : List Nat) (w : Nat) : List Nat := (List.range w).filter fun s => !(leads.contains s)
def nullP (p : Nat) (rows : List (List Nat)) (w : Nat) : List (List Nat) := redA p ((freesP ((redA p rows w).map leadP) w).map (keptP p (redA p rows w) ((redA p rows w).map leadP) w)) w
theorem kept_good {p w free : Nat} {red : List (List Nat)} {leads : List Nat} (hp : 1 < p) : GoodR p w (keptP p red leads w free) := by
  unfold keptP
  have base : GoodR p w (unitP w free) := by
    refine ⟨by unfold unitP; rw [List.length_map, List.length_range], fun x hx => ?_⟩
    obtain ⟨s, _, e⟩ := List.mem_map.mp hx
    rw [← e]
    split <;> omega
  generalize leads.zip red = xs
  generalize unitP w free = u at base
  induction xs generalizing u with
  | nil => exact base
  | cons x xs ih =>
    refine ih _ ⟨by unfold putP; rw [List.length_set]; exact base.1, fun y hy => ?_⟩
    unfold putP at hy
    rcases List.mem_or_eq_of_mem_set hy with h | h
    · exact base.2 y h
    · rw [h]; exact Nat.mod_lt _ (by omega)
theorem stepA_len {p : Nat} (st : List (List Nat) × List (List Nat)) (s : Nat) : (stepA p st s).2.length ≤ st.2.length + 1 := by
  unfold stepA
  split
  · exact Nat.le_succ _
  · show (lessAll _ _ _ _ ++ [_]).length ≤ _
    unfold lessAll
    rw [List.length_append, List.length_map]
    exact Nat.le_refl _
theorem fold_len {p : Nat} : ∀ (ls : List Nat) (st : List (List Nat) × List (List Nat)), (ls.foldl (stepA p) st).2.length ≤ st.2.length + ls.length
  | [], st => Nat.le_refl _
  | s :: ls, st => by
    have h1 := fold_len (p := p) ls (stepA p st s)
    have h2 := stepA_len (p := p) st s
    rw [List.foldl_cons, List.length_cons]
    omega
theorem red_len {p w : Nat} {rows : List (List Nat)} : (redA p rows w).length ≤ w := by
  have := fold_len (p := p) (List.range w) (rows, [])
  rw [List.length_range] at this
  unfold redA
  have e : ((rows, []) : List (List Nat) × List (List Nat)).2.length = 0 := rfl
  omega
theorem null_good {p w : Nat} {rows : List (List Nat)} (hp : 1 < p) (hi : PInv p) : ∀ r ∈ nullP p rows w, GoodR p w r ∧ HasNZ r ∧ leadP r < w := red_good hp hi fun r hr => by
  obtain ⟨x, _, e⟩ := List.mem_map.mp hr
  rw [← e]
  exact kept_good hp
theorem frees_len (leads : List Nat) (w : Nat) : (freesP leads w).length ≤ w := by
  have := List.length_filter_le (fun s => !(leads.contains s)) (List.range w)
  rw [List.length_range] at this
  exact this
theorem null_m {p w : Nat} {rows : List (List Nat)} {d : PyData} (hp : 1 < p) (hp2 : p < 1000) (hi : PInv p) (hw : w ≤ 1000) (h : Good p w rows) (hd : asSeq d = some (rows.map eR)) : m_null_by [eN p, d, eN w] = some (.tuple ((nullP p rows w).map eR)) := by
  have gr := red_good (w := w) hp hi h.2
  have rl := red_len (p := p) (w := w) (rows := rows)
  have s3 := reduced_m hp hp2 (Nat.le_refl w) hw h hd
  unfold nullP
  generalize redA p rows w = red at gr rl s3
  have b1 : mSet 3 (mCall m_reduced_by (mCons (mVar 0) (mCons (mVar 1) (mCons (mVar 2) mNil)))) [.val (eN p), .val d, .val (eN w), .no, .no, .no, .no, .no, .no] = some (.nx [.val (eN p), .val d, .val (eN w), .val (.tuple (red.map eR)), .no, .no, .no, .no, .no]) :=
    set_ok (call_ok (cons_ok (d := eN p) rfl (cons_ok (d := d) rfl (cons_ok (d := eN w) rfl nil_ok))) s3)
  have b2 : mSet 4 (lM (mLc (mSeq (mVar 3)) (.nm 6) mYes (mCall m_lead_of (mCons (mVar 6) mNil)) [6])) [.val (eN p), .val d, .val (eN w), .val (.tuple (red.map eR)), .no, .no, .no, .no, .no] = some (.nx [.val (eN p), .val d, .val (eN w), .val (.tuple (red.map eR)), .val (.list ((red.map leadP).map eN)), .no, .no, .no, .no]) := by
    refine set_ok (lM_ok (lc_ok (ds := red.map eR) rfl ?_ (by rw [List.length_map, List.length_map]; omega)))
    rw [List.map_map]
    exact lcGo_all eR (fun x => eN (leadP x)) red fun x hx => ⟨[.val (eN p), .val d, .val (eN w), .val (.tuple (red.map eR)), .no, .no, .val (eR x), .no, .no], rfl, call_ok (cons_ok (d := eR x) rfl nil_ok) (lead_m (gr x hx).2.1 (by rw [(gr x hx).1.1]; omega))⟩
  have gl : ∀ l ∈ red.map leadP, l < w := fun l hl => by
    obtain ⟨r, hr, e⟩ := List.mem_map.mp hl
    rw [← e]
    exact (gr r hr).2.2
  generalize red.map leadP = leads at b2 gl ⊢
  have b3 : mSet 5 (lM (mLc (mRg1 (mVar 2)) (.nm 7) (mInB true (mVar 7) (mVar 4)) (mVar 7) [7])) [.val (eN p), .val d, .val (eN w), .val (.tuple (red.map eR)), .val (.list (leads.map eN)), .no, .no, .no, .no] = some (.nx [.val (eN p), .val d, .val (eN w), .val (.tuple (red.map eR)), .val (.list (leads.map eN)), .val (.list ((freesP leads w).map eN)), .no, .no, .no]) := by
    refine set_ok (lM_ok (lc_ok (ds := (List.range w).map eN) (by rw [← rg_eN]; exact rg1_ok rfl (okRg_eN (by omega))) (lcGo_map eN (fun s => !(leads.contains s)) eN (List.range w) fun s _ => ⟨[.val (eN p), .val d, .val (eN w), .val (.tuple (red.map eR)), .val (.list (leads.map eN)), .no, .no, .val (eN s), .no], rfl, notin_m rfl rfl, fun _ => rfl⟩) ?_))
    rw [List.length_map]
    exact Nat.le_trans (frees_len leads w) (by omega)
  have fl : ∀ s ∈ freesP leads w, s < w := fun s hs => List.mem_range.mp (List.mem_filter.mp hs).1
  have b4 : lM (mLc (mSeq (mVar 5)) (.nm 8) mYes (mCall m_kept_row (mCons (mVar 0) (mCons (mVar 3) (mCons (mVar 4) (mCons (mVar 2) (mCons (mVar 8) mNil)))))) [8]) [.val (eN p), .val d, .val (eN w), .val (.tuple (red.map eR)), .val (.list (leads.map eN)), .val (.list ((freesP leads w).map eN)), .no, .no, .no] = some (.list (((freesP leads w).map (keptP p red leads w)).map eR)) := by
    refine lM_ok (lc_ok (ds := (freesP leads w).map eN) rfl ?_ (by rw [List.length_map, List.length_map]; exact Nat.le_trans (frees_len _ w) (by omega)))
    rw [List.map_map]
    exact lcGo_all eN (fun s => eR (keptP p red leads w s)) (freesP leads w) fun s hs => ⟨[.val (eN p), .val d, .val (eN w), .val (.tuple (red.map eR)), .val (.list (leads.map eN)), .val (.list ((freesP leads w).map eN)), .no, .no, .val (eN s)], rfl,
      call_ok (cons_ok (d := eN p) rfl (cons_ok (d := .tuple (red.map eR)) rfl (cons_ok (d := .list (leads.map eN)) rfl (cons_ok (d := eN w) rfl (cons_ok (d := eN s) rfl nil_ok))))) (kept_m hp hw (fl s hs) (fun r hr => (gr r hr).1) gl rfl)⟩
  refine mFn_rt rfl (seq_nx b1 (seq_nx b2 (seq_nx b3 (ret_ok (call_ok (cons_ok (d := eN p) rfl (cons_ok b4 (cons_ok (d := eN w) rfl nil_ok))) (reduced_m hp hp2 (Nat.le_refl w) hw ⟨?_, fun r hr => ?_⟩ rfl))))))
  · rw [List.length_map]
    exact Nat.le_trans (frees_len _ w) (by omega)
  · obtain ⟨x, _, e⟩ := List.mem_map.mp hr
    rw [← e]
    exact kept_good hp
end Pl
set_option Elab.async false
set_option linter.all false
set_option maxRecDepth 100000
set_option maxHeartbeats 4000000
namespace Pl
open PySem Ly Mf L2
/-! == of data -/
theorem eqv_eN : ∀ a b : List Nat, PyData.eqvAll (a.map eN) (b.map eN) = decide (a = b)
  | [], [] => rfl
  | [], _ :: _ => rfl
  | _ :: _, [] => rfl
  | x :: a, y :: b => by
    show (PyData.eqv (eN x) (eN y) && PyData.eqvAll (a.map eN) (b.map eN)) = _
    rw [eqv_eN a b]
    show ((Int.ofNat x == Int.ofNat y) && decide (a = b)) = _
    have e : (Int.ofNat x == Int.ofNat y) = decide (x = y) := by
      by_cases e : x = y
      · subst e; simp
      · rw [decide_eq_false e]
        exact beq_eq_false_iff_ne.mpr fun z => e (Int.ofNat.inj z)
    rw [e, ← Bool.decide_and]
    exact decide_eq_decide.mpr ⟨fun h => by rw [h.1, h.2], fun h => ⟨(List.cons.inj h).1, (List.cons.inj h).2⟩⟩
theorem eqv_eR : ∀ a b : List (List Nat), PyData.eqvAll (a.map eR) (b.map eR) = decide (a = b)
  | [], [] => rfl
  | [], _ :: _ => rfl
  | _ :: _, [] => rfl
  | x :: a, y :: b => by
    show (PyData.eqv (eR x) (eR y) && PyData.eqvAll (a.map eR) (b.map eR)) = _
    rw [eqv_eR a b]
    show (PyData.eqvAll (x.map eN) (y.map eN) && decide (a = b)) = _
    rw [eqv_eN, ← Bool.decide_and]
    exact decide_eq_decide.mpr ⟨fun h => by rw [h.1, h.2], fun h => ⟨(List.cons.inj h).1, (List.cons.inj h).2⟩⟩
theorem shp_N : ∀ r : List Nat, PyData.canLayAll0 (r.map eN) = true ∧ PyData.depthAll (r.map eN) ≤ 1
  | [] => by simp [PyData.canLayAll0, PyData.depthAll]
  | n :: ns => by
    obtain ⟨h1, h2⟩ := shp_N ns
    simp [PyData.canLayAll0, PyData.depthAll, PyData.canLay0, PyData.depth, h1]
    exact h2
theorem shp_R : ∀ r : List (List Nat), PyData.canLayAll0 (r.map eR) = true ∧ PyData.depthAll (r.map eR) ≤ 2
  | [] => by simp [PyData.canLayAll0, PyData.depthAll]
  | x :: ns => by
    obtain ⟨h1, h2⟩ := shp_R ns
    obtain ⟨h3, h4⟩ := shp_N x
    have e1 : PyData.canLay0 (eR x) = true := by show PyData.canLay0 (.tuple (x.map eN)) = true; simp only [PyData.canLay0, h3]
    have e2 : PyData.depth (eR x) ≤ 2 := by show PyData.depth (.tuple (x.map eN)) ≤ 2; simp only [PyData.depth]; omega
    simp only [List.map_cons, PyData.canLayAll0, PyData.depthAll, e1, h1, Bool.and_self, true_and]
    omega
theorem sh_R (r : List Nat) : SeqAt.shaped (eR r) = true := by
  obtain ⟨h1, h2⟩ := shp_N r
  show SeqAt.shaped (.tuple (r.map eN)) = true
  unfold SeqAt.shaped
  simp only [PyData.canLay0, PyData.depth, h1, Bool.true_and]
  exact decide_eq_true (by omega)
theorem sh_Rs (r : List (List Nat)) : SeqAt.shaped (.list (r.map eR)) = true := by
  obtain ⟨h1, h2⟩ := shp_R r
  unfold SeqAt.shaped
  simp only [PyData.canLay0, PyData.depth, h1, Bool.true_and]
  exact decide_eq_true (by omega)
theorem sh_Ts (r : List (List Nat)) : SeqAt.shaped (.tuple (r.map eR)) = true := by
  obtain ⟨h1, h2⟩ := shp_R r
  unfold SeqAt.shaped
  simp only [PyData.canLay0, PyData.depth, h1, Bool.true_and]
  exact decide_eq_true (by omega)
theorem eqB_ok {neg : Bool} {ma mb : ME} {r : List Sl} {d e : PyData} {b : Bool} (ha : ma r = some d) (hb : mb r = some e) (h1 : SeqAt.shaped d = true) (h2 : SeqAt.shaped e = true) (h : PyData.eqv d e = b) : mEqB neg ma mb r = some (if neg then !b else b) := by
  unfold mEqB
  rw [ha]
  show (mb r).bind _ = _
  rw [hb]
  show (if (SeqAt.shaped d && SeqAt.shaped e) = true then _ else none) = _
  rw [if_pos (by rw [h1, h2]; rfl), h]
theorem ne_nil_m {ma : ME} {r : List Sl} {rows : List (List Nat)} (ha : ma r = some (.list (rows.map eR))) : mEqB true ma (lM (mLst mNil)) r = some (!rows.isEmpty) := by
  have h := eqB_ok (neg := true) (mb := lM (mLst mNil)) (e := .list []) ha rfl (sh_Rs rows) (sh_Rs []) (b := rows.isEmpty) (by
    cases rows <;> rfl)
  exact h
/-! the law's inverse -/
theorem inv_uniq {p a y i : Nat} (hp : 1 < p) (hy : y < p) (hi : i < p) (h1 : y * a % p = 1) (h2 : a * i % p = 1) : y = i := by
  have e1 : y * (a * i) % p = y := by
    rw [Nat.mul_mod, h2, Nat.mul_one, Nat.mod_mod]
    exact Nat.mod_eq_of_lt hy
  have e2 : y * a * i % p = i := by
    rw [Nat.mul_mod, h1, Nat.one_mul, Nat.mod_mod]
    exact Nat.mod_eq_of_lt hi
  rw [Nat.mul_assoc] at e2
  exact e1.symm.trans e2
theorem rg1_eN {p : Nat} (hp : 1 ≤ p) : rgD 1 (Int.ofNat p) = ((List.range (p - 1)).map (· + 1)).map eN := by
  unfold rgD
  have e : (Int.ofNat p - 1).toNat = p - 1 := by show ((p : Int) - 1).toNat = p - 1; omega
  rw [e, List.map_map]
  refine List.map_congr_left fun k _ => ?_
  show PyData.int (1 + (k : Int)) = PyData.int (Int.ofNat (k + 1))
  congr 1
  show 1 + (k : Int) = ((k + 1 : Nat) : Int)
  omega
theorem lawinv_m {p a : Nat} (hp : 1 < p) (hp2 : p < 1000) (hi : PInv p) (ha : a < p) (h0 : 0 < a) : m__law_inverse [eN p, eN a] = some (eN (invP p a)) := by
  have hI := hi a ha h0
  have hIp : invP p a < p := Nat.mod_lt _ (by omega)
  have tst : ∀ (x : Nat) (r : List Sl), x < p → r = [.val (eN p), .val (eN a), .val (eN x)] → mCmpB pEq (mBin gMod (mBin gMul (mVar 2) (mVar 1)) (mVar 0)) (mC (.int 1)) r = some (decide (x * a % p = 1)) := fun x r hx e => by
    subst e
    rw [cmp_ok (p := pEq) (i := Int.ofNat (x * a % p)) (j := 1) (iM_of (mulmod (a := x) (b := a) (p := p) (by omega) (by omega) rfl rfl rfl)) rfl]
    refine congrArg some ?_
    show (Int.ofNat (x * a % p) == (1 : Int)) = _
    by_cases e : x * a % p = 1
    · rw [e]; rfl
    · rw [decide_eq_false e]
      exact beq_eq_false_iff_ne.mpr fun z => e (Int.ofNat.inj z)
  have key := forGo_find (fun r => ∃ j, r = [.val (eN p), .val (eN a), j]) eN (fun x => decide (x * a % p = 1)) eN (tg := .nm 2) (m := mIfS (mCmpB pEq (mBin gMod (mBin gMul (mVar 2) (mVar 1)) (mVar 0)) (mC (.int 1))) (mRet (mVar 2)) mSkip)
    ((List.range (p - 1)).map (· + 1)) (fun x hx r hr => by
      obtain ⟨j, e⟩ := hr
      subst e
      obtain ⟨k, hk, ek⟩ := List.mem_map.mp hx
      have hx2 : x < p := by have := List.mem_range.mp hk; omega
      have t := tst x _ hx2 rfl
      refine ⟨[.val (eN p), .val (eN a), .val (eN x)], rfl, fun h => ?_, fun h => ⟨[.val (eN p), .val (eN a), .val (eN x)], ?_, .val (eN x), rfl⟩⟩
      · rw [h] at t
        exact if_t t (ret_ok rfl)
      · rw [h] at t
        exact if_f t rfl) [.val (eN p), .val (eN a), .no] ⟨.no, rfl⟩
  obtain ⟨k1, k2⟩ := key
  cases hf : ((List.range (p - 1)).map (· + 1)).find? (fun x => decide (x * a % p = 1)) with
  | none =>
    have q := List.find?_eq_none.mp hf (invP p a) (by
      have : invP p a ≠ 0 := fun z => by rw [z, Nat.mul_zero, Nat.zero_mod] at hI; cases hI
      exact List.mem_map.mpr ⟨invP p a - 1, List.mem_range.mpr (by omega), by omega⟩)
    rw [Nat.mul_comm] at hI
    simp [hI] at q
  | some y =>
    have q0 := List.find?_some hf
    have q1 : y * a % p = 1 := by simpa using q0
    obtain ⟨k, hk, ek⟩ := List.mem_map.mp (List.mem_of_find?_eq_some hf)
    have hy : y < p := by have := List.mem_range.mp hk; omega
    have e : y = invP p a := inv_uniq hp hy hIp q1 hI
    have r1 := k1 y hf
    rw [e, ← rg1_eN (by omega)] at r1
    refine mFn_rt rfl (seq_rt (for_ok (rg2_ok (i := 1) (j := Int.ofNat p) rfl rfl (decide_eq_true ⟨by decide, by decide, Int.le_trans (by decide) (Int.natCast_nonneg p), Int.ofNat_le.mpr (show p ≤ 100000 by omega)⟩)) r1))
end Pl
set_option Elab.async false
set_option linter.all false
set_option maxRecDepth 100000
set_option maxHeartbeats 4000000
namespace Pl
open PySem Ly Mf L2
def nzB (r : List Nat) : Bool := r.any fun x => decide (0 < x)
theorem nz_zero {r : List Nat} (h : nzB r = false) : ∀ x ∈ r, x = 0 := fun x hx => by
  have := List.any_eq_false.mp h x hx
  simp at this
  exact this
theorem nth_zero : ∀ {r : List Nat} (s : Nat), (∀ x ∈ r, x = 0) → nth r s = 0
  | [], _, _ => rfl
  | a :: r, 0, h => h a (List.mem_cons_self ..)
  | a :: r, s + 1, h => nth_zero (r := r) s fun x hx => h x (List.mem_cons_of_mem _ hx)
theorem less_zero {p : Nat} : ∀ {r F : List Nat}, (∀ x ∈ r, x = 0) → ∀ x ∈ lessP p 0 r F, x = 0
  | [], _, _, x, h => by cases h
  | _ :: _, [], _, x, h => by cases h
  | a :: r, b :: F, h, x, hx => by
    rcases List.mem_cons.mp hx with e | hx
    · rw [e, h a (List.mem_cons_self ..), Nat.zero_add, Nat.sub_zero]
      exact Nat.mul_mod_right p b
    · exact less_zero (fun y hy => h y (List.mem_cons_of_mem _ hy)) x hx
theorem nz_of_zero {r : List Nat} (h : ∀ x ∈ r, x = 0) : nzB r = false := List.any_eq_false.mpr fun x hx => by rw [h x hx]; decide
theorem pos_nz {r : List Nat} {s : Nat} (h : decide (0 < nth r s) = true) : nzB r = true := by
  cases e : nzB r with
  | true => rfl
  | false =>
    rw [nth_zero s (nz_zero e)] at h
    cases h
theorem filt_pos (s : Nat) (l : List (List Nat)) : (l.filter nzB).filter (fun x => decide (0 < nth x s)) = l.filter fun x => decide (0 < nth x s) := by
  rw [List.filter_filter]
  refine List.filter_congr fun x _ => ?_
  cases h : decide (0 < nth x s) with
  | false => rfl
  | true => rw [pos_nz h]; rfl
theorem less_filt {p s : Nat} {F : List Nat} : ∀ l : List (List Nat), (lessAll p s F l).filter nzB = (lessAll p s F (l.filter nzB)).filter nzB
  | [] => rfl
  | x :: l => by
    have ih := less_filt (p := p) (s := s) (F := F) l
    cases h : nzB x with
    | true =>
      rw [List.filter_cons_of_pos h]
      show ((lessP p (nth x s) x F) :: lessAll p s F l).filter nzB = ((lessP p (nth x s) x F) :: lessAll p s F (l.filter nzB)).filter nzB
      rw [List.filter_cons, List.filter_cons, ih]
    | false =>
      have z := nz_zero h
      rw [List.filter_cons_of_neg (by rw [h]; decide)]
      show ((lessP p (nth x s) x F) :: lessAll p s F l).filter nzB = _
      rw [nth_zero s z, List.filter_cons_of_neg (by rw [nz_of_zero (less_zero z)]; decide), ih]
theorem nz_rep : ∀ {x : List Nat} {w : Nat}, x.length = w → (!decide (x = List.replicate w 0)) = nzB x
  | [], 0, _ => rfl
  | 0 :: x, w + 1, h => by
    have ih := nz_rep (x := x) (w := w) (Nat.succ.inj h)
    show (!decide (0 :: x = 0 :: List.replicate w 0)) = (false || nzB x)
    rw [Bool.false_or, ← ih]
    congr 1
    exact decide_eq_decide.mpr ⟨fun e => (List.cons.inj e).2, fun e => by rw [e]⟩
  | (a + 1) :: x, w + 1, h => by
    show (!decide ((a + 1) :: x = 0 :: List.replicate w 0)) = (true || nzB x)
    rw [decide_eq_false (fun e => by have := (List.cons.inj e).1; omega)]
    rfl
theorem rep_eN : ∀ w : Nat, (List.replicate w [PyData.int 0]).flatten = (List.replicate w 0).map eN
  | 0 => rfl
  | w + 1 => by
    rw [List.replicate_succ, List.flatten_cons, rep_eN w, List.replicate_succ]
    rfl
theorem pne_eN {me : ME} {r : List Sl} {x : Nat} (h : me r = some (eN x)) : mCmpB pNe me (mC (.int 0)) r = some (decide (0 < x)) := by
  rw [cmp_ok (p := pNe) (i := Int.ofNat x) (j := 0) (iM_of h) rfl]
  refine congrArg some ?_
  show (!(Int.ofNat x == (0 : Int))) = _
  cases x with
  | zero => rfl
  | succ x =>
    rw [decide_eq_true (Nat.succ_pos x)]
    have : (Int.ofNat (x + 1) == (0 : Int)) = false := beq_eq_false_iff_ne.mpr fun z => by cases z
    rw [this]; rfl
abbrev lwM (i : Nat) : ML := mLc (mSeq (mVar i)) (.nm 9) mYes (mCall m__law_less (mCons (mVar 0) (mCons (mVar 9) (mCons (mVar 7) (mCons (mVar 5) mNil))))) [9]
theorem lw_m {p w s i : Nat} {f : List Nat} {rows : List (List Nat)} {r1 r2 r3 r4 r6 r8 : Sl} (hp : 1 < p) (hp2 : p < 1000) (hs : s < w) (hw : w ≤ 1000) (hl : rows.length ≤ 50000) (hr : ∀ x ∈ rows, GoodR p w x) (hi : mVar i [.val (eN p), r1, r2, r3, r4, .val (eN s), r6, .val (eR f), r8, .no, .no] = some (.list (rows.map eR))) :
    lwM i [.val (eN p), r1, r2, r3, r4, .val (eN s), r6, .val (eR f), r8, .no, .no] = some ((lessAll p s f rows).map eR) := by
  refine lc_ok (seq_ok hi rfl) ?_ (by rw [List.length_map]; unfold lessAll; rw [List.length_map]; omega)
  unfold lessAll
  rw [List.map_map]
  refine lcGo_all eR (fun x => eR (lessP p (nth x s) x f)) rows fun x hx => ⟨[.val (eN p), r1, r2, r3, r4, .val (eN s), r6, .val (eR f), r8, .val (eR x), .no], rfl, ?_⟩
  have g := hr x hx
  exact call_ok (cons_ok (d := eN p) rfl (cons_ok (d := eR x) rfl (cons_ok (d := eR f) rfl (cons_ok (d := eN s) rfl nil_ok)))) (lawless_m (by omega) (by rw [g.1]; exact hs) (g.nth hs) (by omega) (by rw [g.1]; omega))
abbrev lawB : MS := mSeq2 (mSet 6 (lM (mLc (mSeq (mVar 3)) (.nm 9) (mCmpB pNe (mIx (mVar 9) (mVar 5)) (mC (.int 0))) (mVar 9) [9]))) (mIfS (mEqB true (mVar 6) (lM (mLst mNil))) (mSeq2 (mSet 7 (mIx (mVar 6) (mC (.int 0)))) (mSeq2 (mSet 8 (mCall m__law_inverse (mCons (mVar 0) (mCons (mIx (mVar 7) (mVar 5)) mNil)))) (mSeq2 (mSet 7 (mTupOf (lM (mLc (mSeq (mVar 7)) (.nm 10) mYes (mBin gMod (mBin gMul (mVar 10) (mVar 8)) (mVar 0)) [10])))) (mSeq2 (mSet 3 (lM (lwM 3))) (mSeq2 (mSet 2 (lM (mCatL (lM (lwM 2)) (lM (mLst (mCons (mVar 7) mNil)))))) (mSet 3 (lM (mLc (mSeq (mVar 3)) (.nm 9) (mEqB true (mVar 9) (mRep (mTup (mCons (mC (.int 0)) mNil)) (mVar 4))) (mVar 9) [9])))))))) mSkip)
def lawR (p w : Nat) (d : PyData) (ys : List Nat) (st : List (List Nat) × List (List Nat)) (r : List Sl) : Prop := GoodS p w ys.length st ∧ ∃ (rest : List (List Nat)) (j5 j6 j7 j8 : Sl), (rest.length ≤ 50000 ∧ ∀ x ∈ rest, GoodR p w x) ∧ rest.filter nzB = st.1.filter nzB ∧
  r = [.val (eN p), .val d, .val (.list (st.2.map eR)), .val (.list (rest.map eR)), .val (eN w), j5, j6, j7, j8, .no, .no]
theorem law_step {p w s : Nat} {d : PyData} {ys : List Nat} {st : List (List Nat) × List (List Nat)} {r : List Sl} (hp : 1 < p) (hp2 : p < 1000) (hi : PInv p) (hw2 : w ≤ 1000) (hs2 : s < w) (hr : lawR p w d (s :: ys) st r) :
    ∃ r1 r2, setT (.nm 5) (eN s) r = some r1 ∧ lawB r1 = some (.nx r2) ∧ lawR p w d ys (stepA p st s) r2 := by
  obtain ⟨⟨g1, g2, g3⟩, rest, j5, j6, j7, j8, ⟨gl, gr⟩, hfe, e⟩ := hr
  subst e
  have ffs : rest.filter (fun x => decide (0 < nth x s)) = st.1.filter fun x => decide (0 < nth x s) := by rw [← filt_pos, hfe, filt_pos]
  have f1 := firsts_m (p := p) (k := 9) (rows := rest) (r := [.val (eN p), .val d, .val (.list (st.2.map eR)), .val (.list (rest.map eR)), .val (eN w), .val (eN s), j6, j7, j8, .no, .no]) (mt := mCmpB pNe (mIx (mVar 9) (mVar 5)) (mC (.int 0))) hs2 gr fun x hx =>
    ⟨[.val (eN p), .val d, .val (.list (st.2.map eR)), .val (.list (rest.map eR)), .val (eN w), .val (eN s), j6, j7, j8, .val (eR x), .no], rfl, pne_eN (ix_ok (d := eR x) rfl rfl (j := Int.ofNat s) rfl (at_eN (by rw [(gr x hx).1]; exact hs2))), rfl⟩
  have s6 : mSet 6 (lM (mLc (mSeq (mVar 3)) (.nm 9) (mCmpB pNe (mIx (mVar 9) (mVar 5)) (mC (.int 0))) (mVar 9) [9])) [.val (eN p), .val d, .val (.list (st.2.map eR)), .val (.list (rest.map eR)), .val (eN w), .val (eN s), j6, j7, j8, .no, .no] = some (.nx [.val (eN p), .val d, .val (.list (st.2.map eR)), .val (.list (rest.map eR)), .val (eN w), .val (eN s), .val (.list ((rest.filter fun x => decide (0 < nth x s)).map eR)), j7, j8, .no, .no]) :=
    set_ok (lM_ok (lc_ok (ds := rest.map eR) rfl f1 (by rw [List.length_map]; have := List.length_filter_le (fun x => decide (0 < nth x s)) rest; omega)))
  rw [ffs] at s6
  have hsz : st.2.length + ys.length + 1 ≤ 1000 := g2
  cases hf : st.1.filter (fun x => decide (0 < nth x s)) with
  | nil =>
    rw [hf] at s6
    refine ⟨[.val (eN p), .val d, .val (.list (st.2.map eR)), .val (.list (rest.map eR)), .val (eN w), .val (eN s), j6, j7, j8, .no, .no], _, rfl, seq_nx s6 (if_f (ne_nil_m (rows := []) rfl) rfl), ?_⟩
    have e : stepA p st s = st := by unfold stepA; rw [hf]
    rw [e]
    exact ⟨⟨g1, by omega, g3⟩, rest, .val (eN s), .val (.list []), j7, j8, ⟨gl, gr⟩, hfe, rfl⟩
  | cons f fs =>
    rw [hf] at s6
    obtain ⟨fm, fp⟩ := List.mem_filter.mp (by rw [hf]; exact List.mem_cons_self .. : f ∈ st.1.filter fun x => decide (0 < nth x s))
    have fp' : 0 < nth f s := of_decide_eq_true fp
    have gf := g1.2 f fm
    have gF : GoodR p w (ledP p (invP p (nth f s)) f) := gf.led (by omega)
    have e : stepA p st s = (lessAll p s (ledP p (invP p (nth f s)) f) st.1, lessAll p s (ledP p (invP p (nth f s)) f) st.2 ++ [ledP p (invP p (nth f s)) f]) := by unfold stepA; rw [hf]
    have s7 : mSet 7 (mIx (mVar 6) (mC (.int 0))) [.val (eN p), .val d, .val (.list (st.2.map eR)), .val (.list (rest.map eR)), .val (eN w), .val (eN s), .val (.list ((f :: fs).map eR)), j7, j8, .no, .no] = some (.nx [.val (eN p), .val d, .val (.list (st.2.map eR)), .val (.list (rest.map eR)), .val (eN w), .val (eN s), .val (.list ((f :: fs).map eR)), .val (eR f), j8, .no, .no]) :=
      set_ok (ix_ok (d := .list ((f :: fs).map eR)) rfl rfl (j := Int.ofNat 0) rfl (at_map eR (n := 0) rfl))
    have s8 : mSet 8 (mCall m__law_inverse (mCons (mVar 0) (mCons (mIx (mVar 7) (mVar 5)) mNil))) [.val (eN p), .val d, .val (.list (st.2.map eR)), .val (.list (rest.map eR)), .val (eN w), .val (eN s), .val (.list ((f :: fs).map eR)), .val (eR f), j8, .no, .no] = some (.nx [.val (eN p), .val d, .val (.list (st.2.map eR)), .val (.list (rest.map eR)), .val (eN w), .val (eN s), .val (.list ((f :: fs).map eR)), .val (eR f), .val (eN (invP p (nth f s))), .no, .no]) :=
      set_ok (call_ok (cons_ok (d := eN p) rfl (cons_ok (ix_ok (d := eR f) rfl rfl (j := Int.ofNat s) rfl (at_eN (by rw [gf.1]; exact hs2))) nil_ok)) (lawinv_m hp hp2 hi (gf.nth hs2) fp'))
    have s7b : mSet 7 (mTupOf (lM (mLc (mSeq (mVar 7)) (.nm 10) mYes (mBin gMod (mBin gMul (mVar 10) (mVar 8)) (mVar 0)) [10]))) [.val (eN p), .val d, .val (.list (st.2.map eR)), .val (.list (rest.map eR)), .val (eN w), .val (eN s), .val (.list ((f :: fs).map eR)), .val (eR f), .val (eN (invP p (nth f s))), .no, .no] = some (.nx [.val (eN p), .val d, .val (.list (st.2.map eR)), .val (.list (rest.map eR)), .val (eN w), .val (eN s), .val (.list ((f :: fs).map eR)), .val (eR (ledP p (invP p (nth f s)) f)), .val (eN (invP p (nth f s))), .no, .no]) := by
      refine set_ok (tupOf_l (lc_ok (ds := f.map eN) rfl (led_go (p := p) (b := invP p (nth f s)) fun x hx => ⟨[.val (eN p), .val d, .val (.list (st.2.map eR)), .val (.list (rest.map eR)), .val (eN w), .val (eN s), .val (.list ((f :: fs).map eR)), .val (eR f), .val (eN (invP p (nth f s))), .no, .val (eN x)], rfl, mulmod (by omega) (by have := gf.2 x hx; omega) rfl rfl rfl⟩) ?_))
      rw [List.length_map, gF.1]
      omega
    generalize invP p (nth f s) = iv at s8 s7b gF e
    generalize ledP p iv f = F at s7b gF e
    have s3 : mSet 3 (lM (lwM 3)) [.val (eN p), .val d, .val (.list (st.2.map eR)), .val (.list (rest.map eR)), .val (eN w), .val (eN s), .val (.list ((f :: fs).map eR)), .val (eR F), .val (eN iv), .no, .no] = some (.nx [.val (eN p), .val d, .val (.list (st.2.map eR)), .val (.list ((lessAll p s F rest).map eR)), .val (eN w), .val (eN s), .val (.list ((f :: fs).map eR)), .val (eR F), .val (eN iv), .no, .no]) :=
      set_ok (lM_ok (lw_m (i := 3) hp hp2 hs2 hw2 gl gr rfl))
    have s2 : mSet 2 (lM (mCatL (lM (lwM 2)) (lM (mLst (mCons (mVar 7) mNil))))) [.val (eN p), .val d, .val (.list (st.2.map eR)), .val (.list ((lessAll p s F rest).map eR)), .val (eN w), .val (eN s), .val (.list ((f :: fs).map eR)), .val (eR F), .val (eN iv), .no, .no] = some (.nx [.val (eN p), .val d, .val (.list ((lessAll p s F st.2 ++ [F]).map eR)), .val (.list ((lessAll p s F rest).map eR)), .val (eN w), .val (eN s), .val (.list ((f :: fs).map eR)), .val (eR F), .val (eN iv), .no, .no]) := by
      refine set_ok (lM_ok ?_)
      unfold mCatL
      rw [lM_ok (lw_m (i := 2) hp hp2 hs2 hw2 (by omega) g3 rfl)]
      show (if (okSz ((lessAll p s F st.2).map eR) && okSz [eR F]) = true then some ((lessAll p s F st.2).map eR ++ [eR F]) else none) = _
      have hz : okSz ((lessAll p s F st.2).map eR) = true := decide_eq_true (by
        rw [List.length_map]
        unfold lessAll
        rw [List.length_map]
        omega)
      rw [hz, if_pos (by rfl), List.map_append]
      rfl
    have s3b : mSet 3 (lM (mLc (mSeq (mVar 3)) (.nm 9) (mEqB true (mVar 9) (mRep (mTup (mCons (mC (.int 0)) mNil)) (mVar 4))) (mVar 9) [9])) [.val (eN p), .val d, .val (.list ((lessAll p s F st.2 ++ [F]).map eR)), .val (.list ((lessAll p s F rest).map eR)), .val (eN w), .val (eN s), .val (.list ((f :: fs).map eR)), .val (eR F), .val (eN iv), .no, .no] = some (.nx [.val (eN p), .val d, .val (.list ((lessAll p s F st.2 ++ [F]).map eR)), .val (.list (((lessAll p s F rest).filter nzB).map eR)), .val (eN w), .val (eN s), .val (.list ((f :: fs).map eR)), .val (eR F), .val (eN iv), .no, .no]) := by
      have gL : ∀ x ∈ lessAll p s F rest, x.length = w := fun x hx => by
        obtain ⟨q, hq, eq⟩ := List.mem_map.mp hx
        rw [← eq]
        exact ((gr q hq).less (by omega) gF).1
      refine set_ok (lM_ok (lc_ok (ds := (lessAll p s F rest).map eR) rfl (lcGo_map eR nzB eR (lessAll p s F rest) fun x hx => ⟨[.val (eN p), .val d, .val (.list ((lessAll p s F st.2 ++ [F]).map eR)), .val (.list ((lessAll p s F rest).map eR)), .val (eN w), .val (eN s), .val (.list ((f :: fs).map eR)), .val (eR F), .val (eN iv), .val (eR x), .no], rfl, ?_, fun _ => rfl⟩) ?_))
      · have hrep : mRep (mTup (mCons (mC (.int 0)) mNil)) (mVar 4) [.val (eN p), .val d, .val (.list ((lessAll p s F st.2 ++ [F]).map eR)), .val (.list ((lessAll p s F rest).map eR)), .val (eN w), .val (eN s), .val (.list ((f :: fs).map eR)), .val (eR F), .val (eN iv), .val (eR x), .no] = some (eR (List.replicate w 0)) := by
          show (if (!([PyData.int 0] : List PyData).isEmpty && decide (1 ≤ Int.ofNat w ∧ Int.ofNat w ≤ 1000 ∧ ([PyData.int 0] : List PyData).length ≤ 1000)) = true then some (PyData.tuple (List.replicate (Int.ofNat w).toNat [PyData.int 0]).flatten) else none) = _
          rw [if_pos]
          · show some (PyData.tuple (List.replicate w [PyData.int 0]).flatten) = _
            rw [rep_eN]; rfl
          · have h1 : (1 : Int) ≤ Int.ofNat w := Int.ofNat_le.mpr (show 1 ≤ w by omega)
            have h2 : Int.ofNat w ≤ 1000 := Int.ofNat_le.mpr hw2
            rw [decide_eq_true ⟨h1, h2, by decide⟩]; rfl
        have q := eqB_ok (neg := true) (ma := mVar 9) (r := [.val (eN p), .val d, .val (.list ((lessAll p s F st.2 ++ [F]).map eR)), .val (.list ((lessAll p s F rest).map eR)), .val (eN w), .val (eN s), .val (.list ((f :: fs).map eR)), .val (eR F), .val (eN iv), .val (eR x), .no]) (d := eR x) rfl hrep (sh_R x) (sh_R _) (eqv_eN x (List.replicate w 0))
        rw [q, ← nz_rep (gL x hx)]
        rfl
      · rw [List.length_map]
        refine Nat.le_trans (List.length_filter_le _ _) ?_
        unfold lessAll
        rw [List.length_map]
        omega
    refine ⟨[.val (eN p), .val d, .val (.list (st.2.map eR)), .val (.list (rest.map eR)), .val (eN w), .val (eN s), j6, j7, j8, .no, .no], _, rfl, seq_nx s6 (if_t (ne_nil_m (rows := f :: fs) rfl) (seq_nx s7 (seq_nx s8 (seq_nx s7b (seq_nx s3 (seq_nx s2 s3b)))))), ?_⟩
    rw [e]
    refine ⟨⟨g1.less (by omega) gF, ?_, fun r hr => ?_⟩, (lessAll p s F rest).filter nzB, .val (eN s), .val (.list ((f :: fs).map eR)), .val (eR F), .val (eN iv), ⟨?_, fun x hx => ?_⟩, ?_, rfl⟩
    · show (lessAll p s F st.2 ++ [F]).length + ys.length ≤ 1000
      rw [List.length_append]
      unfold lessAll
      rw [List.length_map]
      simp only [List.length_cons, List.length_nil]
      omega
    · rcases List.mem_append.mp hr with q | q
      · obtain ⟨z, hz, ez⟩ := List.mem_map.mp q
        rw [← ez]
        exact (g3 z hz).less (by omega) gF
      · rw [List.mem_singleton.mp q]; exact gF
    · refine Nat.le_trans (List.length_filter_le _ _) ?_
      unfold lessAll
      rw [List.length_map]
      exact gl
    · obtain ⟨q, hq, eq⟩ := List.mem_map.mp (List.mem_filter.mp hx).1
      rw [← eq]
      exact (gr q hq).less (by omega) gF
    · show ((lessAll p s F rest).filter nzB).filter nzB = (lessAll p s F st.1).filter nzB
      rw [List.filter_filter]
      have e1 : (lessAll p s F rest).filter (fun a => nzB a && nzB a) = (lessAll p s F rest).filter nzB := List.filter_congr fun x _ => Bool.and_self _
      rw [e1, less_filt rest, less_filt st.1, hfe]
end Pl
set_option Elab.async false
set_option linter.all false
set_option maxRecDepth 100000
set_option maxHeartbeats 4000000
namespace Pl
open PySem Ly Mf L2
theorem fold_nil {p : Nat} : ∀ (ls : List Nat), ls.foldl (stepA p) ([], []) = ([], [])
  | [] => rfl
  | s :: ls => fold_nil (p := p) ls
theorem red_nil {p w : Nat} : redA p [] w = [] := by
  unfold redA
  rw [fold_nil]
theorem lawred_m {p w : Nat} {rows : List (List Nat)} (hp : 1 < p) (hp2 : p < 1000) (hi : PInv p) (hw2 : w ≤ 1000) (h : Good p w rows) : m__law_reduced [eN p, .list (rows.map eR)] = some (.list ((redA p rows w).map eR)) := by
  have start : mPar 2 3 (sV (lM (mLst mNil))) (sV (lM (mLc (mSeq (mVar 1)) (.nm 9) mYes (mTupOf (lM (mLc (mSeq (mVar 9)) (.nm 10) mYes (mBin gMod (mInt (mVar 10)) (mVar 0)) [10]))) [9]))) [.val (eN p), .val (.list (rows.map eR)), .no, .no, .no, .no, .no, .no, .no, .no, .no] = some (.nx [.val (eN p), .val (.list (rows.map eR)), .val (.list []), .val (.list (rows.map eR)), .no, .no, .no, .no, .no, .no, .no]) := by
    have e : lM (mLc (mSeq (mVar 1)) (.nm 9) mYes (mTupOf (lM (mLc (mSeq (mVar 9)) (.nm 10) mYes (mBin gMod (mInt (mVar 10)) (mVar 0)) [10]))) [9]) [.val (eN p), .val (.list (rows.map eR)), .no, .no, .no, .no, .no, .no, .no, .no, .no] = some (.list (rows.map eR)) := by
      refine lM_ok (lc_ok (ds := rows.map eR) rfl (lcGo_all eR eR rows fun x hx => ⟨[.val (eN p), .val (.list (rows.map eR)), .no, .no, .no, .no, .no, .no, .no, .val (eR x), .no], rfl, ?_⟩) (by rw [List.length_map]; have := h.1; omega))
      have gx := h.2 x hx
      refine tupOf_l (lc_ok (ds := x.map eN) rfl (lcGo_all eN eN x fun y hy => ⟨[.val (eN p), .val (.list (rows.map eR)), .no, .no, .no, .no, .no, .no, .no, .val (eR x), .val (eN y)], rfl, ?_⟩) (by rw [List.length_map, gx.1]; omega))
      have q := bin_ok (g := gMod) (r := [.val (eN p), .val (.list (rows.map eR)), .no, .no, .no, .no, .no, .no, .no, .val (eR x), .val (eN y)]) (ma := mInt (mVar 10)) (mb := mVar 0) (i := Int.ofNat y) (j := Int.ofNat p) (iM_of (int_ok rfl)) rfl (mod_ok (show (0 : Int) < Int.ofNat p from Int.ofNat_lt.mpr (Nat.lt_trans Nat.zero_lt_one hp)))
      have e : Int.ofNat y % Int.ofNat p = Int.ofNat y := Int.emod_eq_of_lt (Int.natCast_nonneg y) (Int.ofNat_lt.mpr (gx.2 y hy))
      rw [e] at q
      exact q
    have e0 : lM (mLst mNil) [.val (eN p), .val (.list (rows.map eR)), .no, .no, .no, .no, .no, .no, .no, .no, .no] = some (.list []) := rfl
    unfold mPar sV
    rw [e, e0]; rfl
  cases hr : rows with
  | nil =>
    subst hr
    rw [red_nil]
    have s4 : mSet 4 (mIf (mEqB true (mVar 1) (lM (mLst mNil))) (mLen (mIx (mVar 1) (mC (.int 0)))) (mC (.int 0))) [.val (eN p), .val (.list []), .val (.list []), .val (.list []), .no, .no, .no, .no, .no, .no, .no] = some (.nx [.val (eN p), .val (.list []), .val (.list []), .val (.list []), .val (.int 0), .no, .no, .no, .no, .no, .no]) := by
      refine set_ok ?_
      unfold mIf
      rw [ne_nil_m (rows := []) rfl]
      rfl
    exact mFn_rt rfl (seq_nx start (seq_nx s4 (seq_nx (for_ok (ds := []) rfl rfl) (ret_ok rfl))))
  | cons x xs =>
    have hx : x.length = w := (h.2 x (by rw [hr]; exact List.mem_cons_self ..)).1
    have s4 : mSet 4 (mIf (mEqB true (mVar 1) (lM (mLst mNil))) (mLen (mIx (mVar 1) (mC (.int 0)))) (mC (.int 0))) [.val (eN p), .val (.list ((x :: xs).map eR)), .val (.list []), .val (.list ((x :: xs).map eR)), .no, .no, .no, .no, .no, .no, .no] = some (.nx [.val (eN p), .val (.list ((x :: xs).map eR)), .val (.list []), .val (.list ((x :: xs).map eR)), .val (eN w), .no, .no, .no, .no, .no, .no]) := by
      refine set_ok ?_
      unfold mIf
      rw [ne_nil_m (rows := x :: xs) rfl]
      show mLen (mIx (mVar 1) (mC (.int 0))) _ = _
      rw [len_ok (d := eR x) (ds := x.map eN) (ix_ok (d := .list ((x :: xs).map eR)) rfl rfl (j := Int.ofNat 0) rfl (at_map eR (n := 0) rfl)) rfl, List.length_map, hx]
      rfl
    rw [hr] at start h
    obtain ⟨r', h1, h2⟩ := forGo_fold2 (lawR p w (.list ((x :: xs).map eR))) eN (stepA p) (tg := .nm 5) (m := lawB) (List.range w) (fun s hs ys st r hr => law_step hp hp2 hi hw2 (List.mem_range.mp hs) hr) (x :: xs, [])
      [.val (eN p), .val (.list ((x :: xs).map eR)), .val (.list []), .val (.list ((x :: xs).map eR)), .val (eN w), .no, .no, .no, .no, .no, .no] ⟨⟨h, by rw [List.length_range]; exact Nat.le_trans (by simp) hw2, (fun r hr => by cases hr)⟩, x :: xs, .no, .no, .no, .no, ⟨h.1, h.2⟩, rfl, rfl⟩
    rw [← rg_eN] at h1
    obtain ⟨_, rest, j5, j6, j7, j8, _, _, e⟩ := h2
    subst e
    exact mFn_rt rfl (seq_nx start (seq_nx s4 (seq_nx (for_ok (rg1_ok (j := Int.ofNat w) rfl (okRg_eN (by omega))) h1) (ret_ok rfl))))
/-! the law's null -/
theorem lead_pos : ∀ {r : List Nat}, HasNZ r → 0 < nth r (leadP r)
  | [], ⟨x, hx, _⟩ => by cases hx
  | 0 :: as, ⟨x, hx, h0⟩ => by
    rcases List.mem_cons.mp hx with e | hx
    · omega
    · exact lead_pos (r := as) ⟨x, hx, h0⟩
  | (a + 1) :: as, _ => Nat.succ_pos a
theorem lead_range {r : List Nat} {w : Nat} (h : HasNZ r) (hw : r.length = w) : ∃ t, (List.range w).filter (fun k => decide (0 < nth r k)) = leadP r :: t := by
  have hl : leadP r < w := by rw [← hw]; exact lead_lt h
  have e : List.range w = List.range (leadP r) ++ (leadP r :: List.range' (leadP r + 1) (w - leadP r - 1)) := by
    rw [List.range_eq_range', List.range_eq_range', ← List.range'_succ]
    have := List.range'_append (s := 0) (m := leadP r) (n := w - leadP r - 1 + 1) (step := 1)
    rw [Nat.zero_add, Nat.one_mul] at this
    rw [this]
    congr 1
    omega
  rw [e, List.filter_append, List.filter_cons_of_pos (p := fun k => decide (0 < nth r k)) (a := leadP r) (decide_eq_true (lead_pos h))]
  have z : (List.range (leadP r)).filter (fun k => decide (0 < nth r k)) = [] := List.filter_eq_nil_iff.mpr fun k hk => by
    rw [lead_zero (List.mem_range.mp hk)]; decide
  rw [z]
  exact ⟨_, rfl⟩
def foundF (p : Nat) (red : List (List Nat)) (leads : List Nat) (w : Nat) (found : List (List Nat)) (s : Nat) : List (List Nat) := if leads.contains s then found else found ++ [keptP p red leads w s]
theorem foundF_all (p : Nat) (red : List (List Nat)) (leads : List Nat) (w : Nat) : ∀ (ls : List Nat) (found : List (List Nat)), ls.foldl (foundF p red leads w) found = found ++ ((ls.filter fun s => !(leads.contains s)).map (keptP p red leads w))
  | [], found => by simp
  | s :: ls, found => by
    rw [List.foldl_cons, foundF_all p red leads w ls]
    unfold foundF
    cases h : leads.contains s with
    | true => rw [if_pos rfl, List.filter_cons_of_neg (by rw [h]; decide)]
    | false => rw [if_neg (by decide), List.filter_cons_of_pos (by rw [h]; decide), List.map_cons, List.append_assoc]; rfl
abbrev nlB : MS := mIfS (mInB true (mVar 6) (mVar 5)) (mSeq2 (mSetO 7 (mLc (mRg1 (mVar 2)) (.nm 10) mYes (mIf (mCmpB pEq (mVar 10) (mVar 6)) (mC (.int 1)) (mC (.int 0))) [10])) (mSeq2 (mFor (mZip (mVar 4) (mVar 5)) (.pr 8 9) (mPut 7 (mVar 9) (mBin gMod (mInt (mNeg (mIx (mVar 8) (mVar 6)))) (mVar 0)))) (mApp 3 (mTupOf (mOwn 7))))) mSkip
def nlR (p w : Nat) (d : PyData) (red : List (List Nat)) (leads : List Nat) (ys : List Nat) (found : List (List Nat)) (r : List Sl) : Prop := found.length + ys.length ≤ 1000 ∧ ∃ j6 j7 j8 j9, r = [.val (eN p), .val d, .val (eN w), .own (found.map eR), .val (.list (red.map eR)), .val (.list (leads.map eN)), j6, j7, j8, j9, .no]
theorem nl_step {p w s : Nat} {d : PyData} {red : List (List Nat)} {leads ys : List Nat} {found : List (List Nat)} {r : List Sl} (hp : 1 < p) (hw : w ≤ 1000) (hs : s < w) (hr : ∀ r ∈ red, GoodR p w r) (hl : ∀ l ∈ leads, l < w) (h : nlR p w d red leads (s :: ys) found r) :
    ∃ r1 r2, setT (.nm 6) (eN s) r = some r1 ∧ nlB r1 = some (.nx r2) ∧ nlR p w d red leads ys (foundF p red leads w found s) r2 := by
  obtain ⟨hz, j6, j7, j8, j9, e⟩ := h
  subst e
  have hz2 : found.length + ys.length + 1 ≤ 1000 := hz
  have t : mInB true (mVar 6) (mVar 5) [.val (eN p), .val d, .val (eN w), .own (found.map eR), .val (.list (red.map eR)), .val (.list (leads.map eN)), .val (eN s), j7, j8, j9, .no] = some (!(leads.contains s)) := notin_m rfl rfl
  unfold foundF
  cases hc : leads.contains s with
  | true =>
    rw [hc] at t
    exact ⟨[.val (eN p), .val d, .val (eN w), .own (found.map eR), .val (.list (red.map eR)), .val (.list (leads.map eN)), .val (eN s), j7, j8, j9, .no], _, rfl, if_f t rfl, by rw [if_pos rfl]; omega, .val (eN s), j7, j8, j9, rfl⟩
  | false =>
    rw [hc] at t
    rw [if_neg (by decide)]
    have s1 : mSetO 7 (mLc (mRg1 (mVar 2)) (.nm 10) mYes (mIf (mCmpB pEq (mVar 10) (mVar 6)) (mC (.int 1)) (mC (.int 0))) [10]) [.val (eN p), .val d, .val (eN w), .own (found.map eR), .val (.list (red.map eR)), .val (.list (leads.map eN)), .val (eN s), j7, j8, j9, .no] = some (.nx [.val (eN p), .val d, .val (eN w), .own (found.map eR), .val (.list (red.map eR)), .val (.list (leads.map eN)), .val (eN s), .own ((unitP w s).map eN), j8, j9, .no]) := by
      refine setO_ok (lc_ok (ds := (List.range w).map eN) ?_ (unit_m fun k => ⟨[.val (eN p), .val d, .val (eN w), .own (found.map eR), .val (.list (red.map eR)), .val (.list (leads.map eN)), .val (eN s), j7, j8, j9, .val (eN k)], rfl, one_m rfl rfl⟩) ?_)
      · rw [← rg_eN]
        exact rg1_ok rfl (okRg_eN (by omega))
      · unfold unitP
        rw [List.length_map, List.length_map, List.length_range]
        omega
    obtain ⟨r', h1, h2⟩ := forGo_fold (fun (sg : List Nat) r => sg.length = w ∧ ∃ j8 j9, r = [.val (eN p), .val d, .val (eN w), .own (found.map eR), .val (.list (red.map eR)), .val (.list (leads.map eN)), .val (eN s), .own (sg.map eN), j8, j9, .no]) (fun x : Nat × List Nat => PyData.tuple [eR x.2, eN x.1]) (putP p s) (tg := .pr 8 9) (m := mPut 7 (mVar 9) (mBin gMod (mInt (mNeg (mIx (mVar 8) (mVar 6)))) (mVar 0)))
      (leads.zip red) (fun x hx sg r hr' => by
        obtain ⟨hl', j8, j9, e⟩ := hr'
        subst e
        have hx1 := hl x.1 (List.of_mem_zip hx).1
        have hx2 := hr x.2 (List.of_mem_zip hx).2
        refine ⟨[.val (eN p), .val d, .val (eN w), .own (found.map eR), .val (.list (red.map eR)), .val (.list (leads.map eN)), .val (eN s), .own (sg.map eN), .val (eR x.2), .val (eN x.1), .no], _, rfl, put_m (found := sg) (x := (p - nth x.2 s) % p) (n := x.1) rfl ?_ rfl (by rw [hl']; exact hx1), ?_, .val (eR x.2), .val (eN x.1), rfl⟩
        · have q := bin_ok (g := gMod) (r := [.val (eN p), .val d, .val (eN w), .own (found.map eR), .val (.list (red.map eR)), .val (.list (leads.map eN)), .val (eN s), .own (sg.map eN), .val (eR x.2), .val (eN x.1), .no]) (ma := mInt (mNeg (mIx (mVar 8) (mVar 6)))) (mb := mVar 0) (i := -Int.ofNat (nth x.2 s)) (j := Int.ofNat p)
            (iM_of (int_ok (iM_of (neg_ok (iM_of (ix_ok (d := eR x.2) rfl rfl (j := Int.ofNat s) rfl (at_eN (by rw [hx2.1]; exact hs)))))))) rfl (mod_ok (show (0 : Int) < Int.ofNat p from Int.ofNat_lt.mpr (Nat.lt_trans Nat.zero_lt_one hp)))
          rw [neg_int (hx2.nth hs)] at q
          exact q
        · unfold putP
          rw [List.length_set]
          exact hl') (unitP w s) [.val (eN p), .val d, .val (eN w), .own (found.map eR), .val (.list (red.map eR)), .val (.list (leads.map eN)), .val (eN s), .own ((unitP w s).map eN), j8, j9, .no] ⟨by unfold unitP; rw [List.length_map, List.length_range], j8, j9, rfl⟩
    obtain ⟨_, i8, i9, e⟩ := h2
    subst e
    rw [← zip_rl] at h1
    have h3 : mApp 3 (mTupOf (mOwn 7)) [.val (eN p), .val d, .val (eN w), .own (found.map eR), .val (.list (red.map eR)), .val (.list (leads.map eN)), .val (eN s), .own ((keptP p red leads w s).map eN), i8, i9, .no] = some (.nx [.val (eN p), .val d, .val (eN w), .own ((found ++ [keptP p red leads w s]).map eR), .val (.list (red.map eR)), .val (.list (leads.map eN)), .val (eN s), .own ((keptP p red leads w s).map eN), i8, i9, .no]) := by
      show (if (found.map eR).length < 100000 then some (Out.nx [.val (eN p), .val d, .val (eN w), .own (found.map eR ++ [PyData.tuple ((keptP p red leads w s).map eN)]), .val (.list (red.map eR)), .val (.list (leads.map eN)), .val (eN s), .own ((keptP p red leads w s).map eN), i8, i9, .no]) else none) = _
      rw [if_pos (by rw [List.length_map]; omega), List.map_append]
      rfl
    refine ⟨[.val (eN p), .val d, .val (eN w), .own (found.map eR), .val (.list (red.map eR)), .val (.list (leads.map eN)), .val (eN s), j7, j8, j9, .no], _, rfl, if_t t (seq_nx s1 (seq_nx (for_ok (ds := zipD (red.map eR) (leads.map eN)) rfl h1) h3)), ?_, .val (eN s), _, i8, i9, rfl⟩
    rw [List.length_append]
    simp only [List.length_cons, List.length_nil]
    omega
theorem lawnull_m {p w : Nat} {rows : List (List Nat)} (hp : 1 < p) (hp2 : p < 1000) (hi : PInv p) (hw : w ≤ 1000) (h : Good p w rows) : m__law_null [eN p, .list (rows.map eR), eN w] = some (.list ((nullP p rows w).map eR)) := by
  have gr := red_good (w := w) hp hi h.2
  have rl := red_len (p := p) (w := w) (rows := rows)
  have s3 := lawred_m hp hp2 hi hw h
  unfold nullP
  generalize redA p rows w = red at gr rl s3
  have gl : ∀ l ∈ red.map leadP, l < w := fun l hl => by
    obtain ⟨r, hr, e⟩ := List.mem_map.mp hl
    rw [← e]
    exact (gr r hr).2.2
  have b2 : mSet 4 (mCall m__law_reduced (mCons (mVar 0) (mCons (mVar 1) mNil))) [.val (eN p), .val (.list (rows.map eR)), .val (eN w), .own [], .no, .no, .no, .no, .no, .no, .no] = some (.nx [.val (eN p), .val (.list (rows.map eR)), .val (eN w), .own [], .val (.list (red.map eR)), .no, .no, .no, .no, .no, .no]) :=
    set_ok (call_ok (cons_ok (d := eN p) rfl (cons_ok (d := .list (rows.map eR)) rfl nil_ok)) s3)
  have b3 : mSet 5 (lM (mLc (mSeq (mVar 4)) (.nm 8) mYes (mIx (lM (mLc (mRg1 (mVar 2)) (.nm 10) (mCmpB pNe (mIx (mVar 8) (mVar 10)) (mC (.int 0))) (mVar 10) [10])) (mC (.int 0))) [8])) [.val (eN p), .val (.list (rows.map eR)), .val (eN w), .own [], .val (.list (red.map eR)), .no, .no, .no, .no, .no, .no] = some (.nx [.val (eN p), .val (.list (rows.map eR)), .val (eN w), .own [], .val (.list (red.map eR)), .val (.list ((red.map leadP).map eN)), .no, .no, .no, .no, .no]) := by
    refine set_ok (lM_ok (lc_ok (ds := red.map eR) rfl ?_ (by rw [List.length_map, List.length_map]; omega)))
    rw [List.map_map]
    refine lcGo_all eR (fun x => eN (leadP x)) red fun x hx => ⟨[.val (eN p), .val (.list (rows.map eR)), .val (eN w), .own [], .val (.list (red.map eR)), .no, .no, .no, .val (eR x), .no, .no], rfl, ?_⟩
    have gx := gr x hx
    obtain ⟨t, et⟩ := lead_range gx.2.1 gx.1.1
    have q := lcGo_map eN (fun k => decide (0 < nth x k)) eN (tg := .nm 10) (mt := mCmpB pNe (mIx (mVar 8) (mVar 10)) (mC (.int 0))) (me := mVar 10) (r := [.val (eN p), .val (.list (rows.map eR)), .val (eN w), .own [], .val (.list (red.map eR)), .no, .no, .no, .val (eR x), .no, .no]) (List.range w) fun k hk =>
      ⟨[.val (eN p), .val (.list (rows.map eR)), .val (eN w), .own [], .val (.list (red.map eR)), .no, .no, .no, .val (eR x), .no, .val (eN k)], rfl, pne_eN (ix_ok (d := eR x) rfl rfl (j := Int.ofNat k) rfl (at_eN (by rw [gx.1.1]; exact List.mem_range.mp hk))), fun _ => rfl⟩
    have hlt : ((List.range w).filter fun k => decide (0 < nth x k)).length ≤ w := by
      have := List.length_filter_le (fun k => decide (0 < nth x k)) (List.range w)
      rw [List.length_range] at this
      exact this
    rw [et] at q hlt
    refine ix_ok (d := .list ((leadP x :: t).map eN)) (lM_ok (lc_ok (ds := (List.range w).map eN) (by rw [← rg_eN]; exact rg1_ok rfl (okRg_eN (by omega))) q ?_)) rfl (j := Int.ofNat 0) rfl (at_map eN (n := 0) rfl)
    rw [List.length_map]
    omega
  generalize red.map leadP = leads at b3 gl ⊢
  obtain ⟨r', h1, h2⟩ := forGo_fold2 (nlR p w (.list (rows.map eR)) red leads) eN (foundF p red leads w) (tg := .nm 6) (m := nlB) (List.range w) (fun s hs ys found r hr => nl_step hp hw (List.mem_range.mp hs) (fun r hr => (gr r hr).1) gl hr) []
    [.val (eN p), .val (.list (rows.map eR)), .val (eN w), .own [], .val (.list (red.map eR)), .val (.list (leads.map eN)), .no, .no, .no, .no, .no] ⟨by rw [List.length_range]; exact Nat.le_trans (by simp) hw, .no, .no, .no, .no, rfl⟩
  rw [← rg_eN] at h1
  obtain ⟨_, j6, j7, j8, j9, e⟩ := h2
  rw [foundF_all, List.nil_append] at e
  subst e
  have b5 : mFrz 3 (mRet (mCall m__law_reduced (mCons (mVar 0) (mCons (mVar 3) mNil)))) [.val (eN p), .val (.list (rows.map eR)), .val (eN w), .own (((freesP leads w).map (keptP p red leads w)).map eR), .val (.list (red.map eR)), .val (.list (leads.map eN)), j6, j7, j8, j9, .no] = some (.rt (.list ((redA p ((freesP leads w).map (keptP p red leads w)) w).map eR))) := by
    refine ret_ok (r := [.val (eN p), .val (.list (rows.map eR)), .val (eN w), .val (.list (((freesP leads w).map (keptP p red leads w)).map eR)), .val (.list (red.map eR)), .val (.list (leads.map eN)), j6, j7, j8, j9, .no]) (call_ok (cons_ok (d := eN p) rfl (cons_ok (d := .list (((freesP leads w).map (keptP p red leads w)).map eR)) rfl nil_ok)) (lawred_m hp hp2 hi hw ⟨?_, fun r hr => ?_⟩))
    · rw [List.length_map]
      exact Nat.le_trans (frees_len leads w) (by omega)
    · obtain ⟨x, _, e⟩ := List.mem_map.mp hr
      rw [← e]
      exact kept_good hp
  exact mFn_rt rfl (seq_nx (r1 := [.val (eN p), .val (.list (rows.map eR)), .val (eN w), .own [], .no, .no, .no, .no, .no, .no, .no]) rfl (seq_nx b2 (seq_nx b3 (seq_nx (for_ok (rg1_ok (j := Int.ofNat w) rfl (okRg_eN (by omega))) h1) b5))))
def eB (p n : Nat) (S : List (List Nat)) : PyData := .tuple [eN p, eN n, .tuple (S.map eR)]
theorem words_m {p n : Nat} {S : List (List Nat)} (hp : 1 < p) (hp2 : p < 1000) (hi : PInv p) (hw : n ≤ 1000) (h : Good p n S) : m__law_words [eB p n S] = some (.list ((nullP p S n).map eR)) :=
  mFn_rt rfl (ret_ok (call_ok (cons_ok (d := eN p) rfl (cons_ok (d := .list (S.map eR)) rfl (cons_ok (d := eN n) rfl nil_ok))) (lawnull_m hp hp2 hi hw h)))
end Pl
set_option Elab.async false
set_option linter.all false
set_option maxRecDepth 100000
set_option maxHeartbeats 4000000
namespace Pl
open PySem Ly Mf L2
theorem powf (p a : Nat) : ∀ (e f : Nat), (List.range e).foldl (fun f _ => f * a % p) f = if e = 0 then f else f * a ^ e % p
  | 0, f => rfl
  | e + 1, f => by
    rw [List.range_succ, List.foldl_append, powf p a e f, if_neg (Nat.succ_ne_zero e)]
    show (if e = 0 then f else f * a ^ e % p) * a % p = _
    by_cases h : e = 0
    · subst h; rw [if_pos rfl, Nat.zero_add, Nat.pow_one]
    · rw [if_neg h, Nat.mod_mul_mod, Nat.mul_assoc, ← Nat.pow_succ]
theorem lpow_m {p a e : Nat} (hp : 1 < p) (hp2 : p < 1000000) (he : e ≤ 1000) : m__law_power_at [eN p, eN a, eN e] = some (eN (a ^ e % p)) := by
  obtain ⟨r', h1, h2⟩ := forGo_fold (fun (f : Nat) r => f < 1000000 ∧ ∃ j, r = [.val (eN p), .val (eN a), .val (eN e), .val (eN f), j]) eN (fun f (_ : Nat) => f * a % p) (tg := .nm 4) (m := mSet 3 (mBin gMod (mInt (mBin gMul (mVar 3) (mVar 1))) (mVar 0)))
    (List.range e) (fun x _ f r hr => by
      obtain ⟨hf, j, e1⟩ := hr
      subst e1
      refine ⟨[.val (eN p), .val (eN a), .val (eN e), .val (eN f), .val (eN x)], _, rfl, set_ok (d := eN (f * a % p)) (bin_ok (iM_of (int_ok (iM_of (bin_ok (i := Int.ofNat f) (j := Int.ofNat a) rfl rfl (mul_ok (smallI hf).1 (smallI hf).2))))) (j := Int.ofNat p) rfl (mod_ok (show (0 : Int) < Int.ofNat p from Int.ofNat_lt.mpr (Nat.lt_trans Nat.zero_lt_one hp)))), Nat.lt_trans (Nat.mod_lt _ (by omega)) hp2, .val (eN x), rfl⟩) 1 [.val (eN p), .val (eN a), .val (eN e), .val (eN 1), .no] ⟨by decide, .no, rfl⟩
  obtain ⟨_, j, e1⟩ := h2
  subst e1
  rw [← rg_eN] at h1
  have ef : (List.range e).foldl (fun f (_ : Nat) => f * a % p) 1 = a ^ e % p := by
    rw [powf]
    by_cases h : e = 0
    · subst h; rw [if_pos rfl, Nat.pow_zero, Nat.mod_eq_of_lt hp]
    · rw [if_neg h, Nat.one_mul]
  rw [ef] at h1
  exact mFn_rt rfl (seq_nx (r1 := [.val (eN p), .val (eN a), .val (eN e), .val (eN 1), .no]) rfl (seq_nx (for_ok (rg1_ok (j := Int.ofNat e) rfl (okRg_eN (by omega))) h1) (ret_ok rfl)))
/-! columns picked -/
def cutP (rows : List (List Nat)) (lot : List Nat) : List (List Nat) := rows.map fun r => lot.map (nth r)
theorem cut_good {p n : Nat} {rows : List (List Nat)} {lot : List Nat} (h : ∀ r ∈ rows, GoodR p n r) (hl : ∀ x ∈ lot, x < n) : ∀ r ∈ cutP rows lot, GoodR p lot.length r := fun r hr => by
  obtain ⟨q, hq, e⟩ := List.mem_map.mp hr
  rw [← e]
  refine ⟨by rw [List.length_map], fun x hx => ?_⟩
  obtain ⟨y, hy, ey⟩ := List.mem_map.mp hx
  rw [← ey]
  exact (h q hq).nth (hl y hy)
theorem cutrow_m {n k : Nat} {row lot : List Nat} {r : List Sl} {me : ME} (h : ∀ x ∈ lot, ∃ r1, setT (.nm k) (eN x) r = some r1 ∧ me r1 = some (eN (nth row x))) : lcGo (.nm k) mYes me r (lot.map eN) = some ((lot.map (nth row)).map eN) := by
  rw [List.map_map]
  exact lcGo_all eN (fun x => eN (nth row x)) lot h
def rankP (p : Nat) (rows : List (List Nat)) (lot : List Nat) : Nat := match lot with
  | [] => 0
  | _ :: _ => (pivF p (cutP rows lot) lot.length).length
theorem rank_m {p n : Nat} {W : List (List Nat)} {lot : List Nat} (hp : 1 < p) (hp2 : p < 1000) (hi : PInv p) (hW : Good p n W) (hl : ∀ x ∈ lot, x < n) (hz : lot.length ≤ 1000) : m__law_rank [eN p, .list (W.map eR), eR lot] = some (eN (rankP p W lot)) := by
  have s3 : mSet 3 (lM (mLc (mSeq (mVar 1)) (.nm 4) mYes (mTupOf (lM (mLc (mSeq (mVar 2)) (.nm 5) mYes (mIx (mVar 4) (mVar 5)) [5]))) [4])) [.val (eN p), .val (.list (W.map eR)), .val (eR lot), .no, .no, .no] = some (.nx [.val (eN p), .val (.list (W.map eR)), .val (eR lot), .val (.list ((cutP W lot).map eR)), .no, .no]) := by
    have hc : ((cutP W lot).map eR).length ≤ 100000 := by
      unfold cutP
      rw [List.length_map, List.length_map]
      have := hW.1
      omega
    refine set_ok (lM_ok (lc_ok (ds := W.map eR) rfl ?_ hc))
    unfold cutP
    rw [List.map_map]
    refine lcGo_all eR (fun x => eR (lot.map (nth x))) W fun x hx => ⟨[.val (eN p), .val (.list (W.map eR)), .val (eR lot), .no, .val (eR x), .no], rfl, ?_⟩
    refine tupOf_l (lc_ok (ds := lot.map eN) rfl (cutrow_m (n := n) fun y hy => ⟨[.val (eN p), .val (.list (W.map eR)), .val (eR lot), .no, .val (eR x), .val (eN y)], rfl, ix_ok (d := eR x) rfl rfl (j := Int.ofNat y) rfl (at_eN (by rw [(hW.2 x hx).1]; exact hl y hy))⟩) ?_)
    rw [List.length_map, List.length_map]
    omega
  have cg := cut_good hW.2 hl
  refine mFn_rt rfl (seq_nx s3 (ret_ok ?_))
  unfold mIf
  rw [eqB_ok (neg := true) (ma := mVar 2) (mb := mTup mNil) (d := eR lot) (e := eR []) rfl rfl (sh_R lot) (sh_R []) (eqv_eN lot [])]
  cases lot with
  | nil => rfl
  | cons a as =>
    rw [decide_eq_false (by intro z; cases z)]
    show mLen (mCall m__law_reduced (mCons (mVar 0) (mCons (mVar 3) mNil))) _ = _
    have q := lawred_m (rows := cutP W (a :: as)) hp hp2 hi hz ⟨by unfold cutP; rw [List.length_map]; exact hW.1, cg⟩
    rw [len_ok (d := .list ((redA p (cutP W (a :: as)) (a :: as).length).map eR)) (ds := (redA p (cutP W (a :: as)) (a :: as).length).map eR) (call_ok (cons_ok (d := eN p) rfl (cons_ok (d := .list ((cutP W (a :: as)).map eR)) rfl nil_ok)) q) rfl]
    have e := (red_inv (w := (a :: as).length) hp hi cg).2
    have e2 : (redA p (cutP W (a :: as)) (a :: as).length).length = (pivF p (cutP W (a :: as)) (a :: as).length).length := by rw [← e, List.length_map]
    rw [List.length_map, e2]
    rfl
def offP (n : Nat) (lot : List Nat) : List Nat := (List.range n).filter fun s => !(lot.contains s)
theorem off_m {p n : Nat} {S : List (List Nat)} {lot : List Nat} (hn : n ≤ 1000) : m__law_off [eB p n S, eR lot] = some (eR (offP n lot)) := by
  refine mFn_rt rfl (ret_ok (tupOf_l (lc_ok (ds := (List.range n).map eN) ?_ (lcGo_map eN (fun s => !(lot.contains s)) eN (List.range n) fun s _ => ⟨[.val (eB p n S), .val (eR lot), .val (eN s)], rfl, notin_m rfl rfl, fun _ => rfl⟩) ?_)))
  · rw [← rg_eN]
    exact rg1_ok rfl (okRg_eN (by omega))
  · rw [List.length_map]
    have : (offP n lot).length ≤ n := frees_len lot n
    show (offP n lot).length ≤ 100000
    omega
theorem off_lt {n : Nat} {lot : List Nat} : ∀ x ∈ offP n lot, x < n := fun x hx => List.mem_range.mp (List.mem_filter.mp hx).1
theorem off_len {n : Nat} {lot : List Nat} : (offP n lot).length ≤ n := frees_len lot n
def insN (x : Nat) : List Nat → List Nat
  | [] => [x]
  | y :: ys => if x < y then x :: y :: ys else if x = y then y :: ys else y :: insN x ys
def sortN : List Nat → List Nat
  | [] => []
  | x :: xs => insN x (sortN xs)
theorem ins_N (x : Nat) : ∀ ys : List Nat, insI (Int.ofNat x) (ys.map Int.ofNat) = (insN x ys).map Int.ofNat
  | [] => rfl
  | y :: ys => by
    show (if Int.ofNat x < Int.ofNat y then _ else if Int.ofNat x = Int.ofNat y then _ else _) = (if x < y then x :: y :: ys else if x = y then y :: ys else y :: insN x ys).map Int.ofNat
    by_cases h : x < y
    · rw [if_pos (show Int.ofNat x < Int.ofNat y from Int.ofNat_lt.mpr h), if_pos h]; rfl
    · rw [if_neg (show ¬ Int.ofNat x < Int.ofNat y from fun z => h (Int.ofNat_lt.mp z)), if_neg h]
      by_cases e : x = y
      · subst e; rw [if_pos rfl, if_pos rfl]; rfl
      · rw [if_neg (fun z => e (Int.ofNat.inj z)), if_neg e]
        show Int.ofNat y :: insI (Int.ofNat x) (ys.map Int.ofNat) = _
        rw [ins_N x ys]; rfl
theorem sort_N : ∀ xs : List Nat, sortI (xs.map Int.ofNat) = (sortN xs).map Int.ofNat
  | [] => rfl
  | x :: xs => by
    show insI (Int.ofNat x) (sortI (xs.map Int.ofNat)) = _
    rw [sort_N xs, ins_N]; rfl
theorem insN_mem (x k : Nat) : ∀ ys : List Nat, k ∈ insN x ys → k = x ∨ k ∈ ys
  | [], h => .inl (List.mem_singleton.mp h)
  | y :: ys, h => by
    unfold insN at h
    split at h
    · rcases List.mem_cons.mp h with e | h
      · exact .inl e
      · exact .inr h
    · split at h
      · exact .inr h
      · rcases List.mem_cons.mp h with e | h
        · exact .inr (by rw [e]; exact List.mem_cons_self ..)
        · rcases insN_mem x k ys h with e | h
          · exact .inl e
          · exact .inr (List.mem_cons_of_mem _ h)
theorem sortN_mem (k : Nat) : ∀ xs : List Nat, k ∈ sortN xs → k ∈ xs
  | [], h => h
  | x :: xs, h => by
    rcases insN_mem x k (sortN xs) h with e | h
    · rw [e]; exact List.mem_cons_self ..
    · exact List.mem_cons_of_mem _ (sortN_mem k xs h)
theorem insN_len (x : Nat) : ∀ ys : List Nat, (insN x ys).length ≤ ys.length + 1
  | [] => Nat.le_refl _
  | y :: ys => by
    unfold insN
    split
    · exact Nat.le_refl _
    · split
      · exact Nat.le_succ _
      · exact Nat.succ_le_succ (insN_len x ys)
theorem sortN_len : ∀ xs : List Nat, (sortN xs).length ≤ xs.length
  | [] => Nat.le_refl _
  | x :: xs => Nat.le_trans (insN_len x (sortN xs)) (Nat.succ_le_succ (sortN_len xs))
theorem allInt_eN (xs : List Nat) : allInt (xs.map eN) = some (xs.map Int.ofNat) := by
  have := ints_map (xs.map Int.ofNat)
  rw [List.map_map] at this
  exact this
theorem sort_m {m : ME} {r : List Sl} {xs : List Nat} (h : (m r).bind asSeq = some (xs.map eN)) (hl : xs.length < 64) : mSortSet m r = some ((sortN xs).map eN) := by
  unfold mSortSet
  rw [h]
  show (allInt (xs.map eN)).bind _ = _
  rw [allInt_eN]
  show (if (xs.map Int.ofNat).length < 64 then _ else none) = _
  rw [if_pos (by rw [List.length_map]; exact hl), sort_N, List.map_map]
  rfl
theorem catT_m {ma mb : ME} {r : List Sl} {xs ys : List Nat} (ha : ma r = some (eR xs)) (hb : mb r = some (eR ys)) (h1 : xs.length ≤ 1000) (h2 : ys.length ≤ 1000) : mCatT ma mb r = some (eR (xs ++ ys)) := by
  unfold mCatT
  rw [ha, hb]
  show (if (okSz (xs.map eN) && okSz (ys.map eN)) = true then _ else none) = _
  have e1 : okSz (xs.map eN) = true := decide_eq_true (by rw [List.length_map]; omega)
  have e2 : okSz (ys.map eN) = true := decide_eq_true (by rw [List.length_map]; omega)
  rw [e1, e2, if_pos (by rfl)]
  show some (PyData.tuple (xs.map eN ++ ys.map eN)) = _
  rw [← List.map_append]
  rfl
def moreP (xs : List Nat) (x : Nat) : List Nat := sortN (xs ++ [x])
theorem more_m {ma mb : ME} {r : List Sl} {xs : List Nat} {x : Nat} (ha : ma r = some (eR xs)) (hb : mb r = some (eN x)) (h1 : xs.length < 63) : mTupOf (lM (mSortSet (mCatT ma (mTup (mCons mb mNil))))) r = some (eR (moreP xs x)) := by
  have h2 : mTup (mCons mb mNil) r = some (eR [x]) := by
    unfold mTup
    rw [cons_ok hb nil_ok]
    rfl
  refine tupOf_l (sort_m (xs := xs ++ [x]) ?_ (by rw [List.length_append]; simp only [List.length_cons, List.length_nil]; omega))
  rw [catT_m ha h2 (by omega) (by simp)]
  rfl
theorem more_lt {n x : Nat} {xs : List Nat} (h : ∀ y ∈ xs, y < n) (hx : x < n) : ∀ y ∈ moreP xs x, y < n := fun y hy => by
  rcases List.mem_append.mp (sortN_mem y _ hy) with q | q
  · exact h y q
  · rw [List.mem_singleton.mp q]; exact hx
theorem more_len {x : Nat} {xs : List Nat} : (moreP xs x).length ≤ xs.length + 1 := by
  have := sortN_len (xs ++ [x])
  rw [List.length_append] at this
  exact this
def aloneP (p n : Nat) (W : List (List Nat)) (lost : List Nat) (place : Nat) : Bool := rankP p W (moreP (offP n lost) place) == rankP p W (offP n lost)
theorem eqN_m {ma mb : ME} {r : List Sl} {a b : Nat} (ha : ma r = some (eN a)) (hb : mb r = some (eN b)) : mCmpB pEq ma mb r = some (a == b) := by
  rw [cmp_ok (p := pEq) (i := Int.ofNat a) (j := Int.ofNat b) (iM_of ha) (iM_of hb)]
  refine congrArg some ?_
  show (Int.ofNat a == Int.ofNat b) = _
  by_cases e : a = b
  · subst e; simp
  · rw [beq_eq_false_iff_ne.mpr e]
    exact beq_eq_false_iff_ne.mpr fun z => e (Int.ofNat.inj z)
theorem words_good {p n : Nat} {S : List (List Nat)} (hp : 1 < p) (hi : PInv p) (hn : n ≤ 1000) : Good p n (nullP p S n) := ⟨Nat.le_trans (by unfold nullP; exact red_len) (by omega), fun r hr => (null_good hp hi r hr).1⟩
theorem alone_m {p n place : Nat} {S : List (List Nat)} {lost : List Nat} (hp : 1 < p) (hp2 : p < 1000) (hi : PInv p) (hn : n < 60) (h : Good p n S) (hpl : place < n) : m__law_has_alone [eB p n S, eR lost, eN place] = some (.bool (aloneP p n (nullP p S n) lost place)) := by
  have hW := words_good (S := S) (n := n) hp hi (by omega)
  have hw := words_m hp hp2 hi (by omega) h
  have ol := off_len (n := n) (lot := lost)
  generalize nullP p S n = W at hW hw ⊢
  have s3 : mSet 3 (mCall m__law_words (mCons (mVar 0) mNil)) [.val (eB p n S), .val (eR lost), .val (eN place), .no, .no, .no] = some (.nx [.val (eB p n S), .val (eR lost), .val (eN place), .val (.list (W.map eR)), .no, .no]) :=
    set_ok (call_ok (cons_ok (d := eB p n S) rfl nil_ok) hw)
  have s4 : mSet 4 (mCall m__law_off (mCons (mVar 0) (mCons (mVar 1) mNil))) [.val (eB p n S), .val (eR lost), .val (eN place), .val (.list (W.map eR)), .no, .no] = some (.nx [.val (eB p n S), .val (eR lost), .val (eN place), .val (.list (W.map eR)), .val (eR (offP n lost)), .no]) :=
    set_ok (call_ok (cons_ok (d := eB p n S) rfl (cons_ok (d := eR lost) rfl nil_ok)) (off_m (by omega)))
  have s5 : mSet 5 (mTupOf (lM (mSortSet (mCatT (mVar 4) (mTup (mCons (mVar 2) mNil)))))) [.val (eB p n S), .val (eR lost), .val (eN place), .val (.list (W.map eR)), .val (eR (offP n lost)), .no] = some (.nx [.val (eB p n S), .val (eR lost), .val (eN place), .val (.list (W.map eR)), .val (eR (offP n lost)), .val (eR (moreP (offP n lost) place))]) :=
    set_ok (more_m rfl rfl (by omega))
  refine mFn_rt rfl (seq_nx s3 (seq_nx s4 (seq_nx s5 (ret_ok ?_))))
  have ml := more_len (xs := offP n lost) (x := place)
  have r1 := rank_m hp hp2 hi hW (more_lt (off_lt (n := n) (lot := lost)) hpl) (by omega)
  have r2 := rank_m hp hp2 hi hW (off_lt (n := n) (lot := lost)) (by omega)
  have q := eqN_m (r := [.val (eB p n S), .val (eR lost), .val (eN place), .val (.list (W.map eR)), .val (eR (offP n lost)), .val (eR (moreP (offP n lost) place))])
    (ma := mCall m__law_rank (mCons (mIx (mVar 0) (mC (.int 0))) (mCons (mVar 3) (mCons (mVar 5) mNil)))) (mb := mCall m__law_rank (mCons (mIx (mVar 0) (mC (.int 0))) (mCons (mVar 3) (mCons (mVar 4) mNil))))
    (call_ok (cons_ok (d := eN p) rfl (cons_ok (d := .list (W.map eR)) rfl (cons_ok (d := eR (moreP (offP n lost) place)) rfl nil_ok))) r1) (call_ok (cons_ok (d := eN p) rfl (cons_ok (d := .list (W.map eR)) rfl (cons_ok (d := eR (offP n lost)) rfl nil_ok))) r2)
  unfold bE
  rw [q]
  rfl
def groupP (p n : Nat) (W : List (List Nat)) (group : List Nat) : Bool := group.all fun x => aloneP p n W (moreP (offP n group) x) x
theorem group_m {p n : Nat} {S : List (List Nat)} {group : List Nat} (hp : 1 < p) (hp2 : p < 1000) (hi : PInv p) (hn : n < 60) (h : Good p n S) (hg : ∀ x ∈ group, x < n) : m__law_group_right [eB p n S, eR group] = some (.bool (groupP p n (nullP p S n) group)) := by
  have ol := off_len (n := n) (lot := group)
  obtain ⟨k1, k2⟩ := forGo_find (fun r => ∃ j, r = [.val (eB p n S), .val (eR group), j]) eN (fun x => !(aloneP p n (nullP p S n) (moreP (offP n group) x) x)) (fun _ => PyData.bool false) (tg := .nm 2)
    (m := mIfS (mNotB (bM (mCall m__law_has_alone (mCons (mVar 0) (mCons (mTupOf (lM (mSortSet (mCatT (mCall m__law_off (mCons (mVar 0) (mCons (mVar 1) mNil))) (mTup (mCons (mVar 2) mNil)))))) (mCons (mVar 2) mNil)))))) (mRet (mC (.bool false))) mSkip)
    group (fun x hx r hr => by
      obtain ⟨j, e⟩ := hr
      subst e
      have t : mNotB (bM (mCall m__law_has_alone (mCons (mVar 0) (mCons (mTupOf (lM (mSortSet (mCatT (mCall m__law_off (mCons (mVar 0) (mCons (mVar 1) mNil))) (mTup (mCons (mVar 2) mNil)))))) (mCons (mVar 2) mNil))))) [.val (eB p n S), .val (eR group), .val (eN x)] = some (!(aloneP p n (nullP p S n) (moreP (offP n group) x) x)) := by
        have q := call_ok (r := [.val (eB p n S), .val (eR group), .val (eN x)]) (cons_ok (me := mVar 0) (d := eB p n S) rfl (cons_ok (more_m (ma := mCall m__law_off (mCons (mVar 0) (mCons (mVar 1) mNil))) (mb := mVar 2) (call_ok (cons_ok (d := eB p n S) rfl (cons_ok (d := eR group) rfl nil_ok)) (off_m (by omega))) rfl (by omega)) (cons_ok (me := mVar 2) (d := eN x) rfl nil_ok))) (alone_m hp hp2 hi hn h (hg x hx))
        unfold mNotB bM
        rw [q]
        rfl
      refine ⟨[.val (eB p n S), .val (eR group), .val (eN x)], rfl, fun hc => ?_, fun hc => ⟨_, ?_, .val (eN x), rfl⟩⟩
      · rw [hc] at t
        exact if_t t rfl
      · rw [hc] at t
        exact if_f t rfl) [.val (eB p n S), .val (eR group), .no] ⟨.no, rfl⟩
  unfold groupP
  cases hf : group.find? (fun x => !(aloneP p n (nullP p S n) (moreP (offP n group) x) x)) with
  | none =>
    obtain ⟨r', h1, j, e⟩ := k2 hf
    subst e
    have ea : (group.all fun x => aloneP p n (nullP p S n) (moreP (offP n group) x) x) = true := List.all_eq_true.mpr fun x hx => by
      have := List.find?_eq_none.mp hf x hx
      simpa using this
    rw [ea]
    exact mFn_rt rfl (seq_nx (for_ok (ds := group.map eN) rfl h1) rfl)
  | some y =>
    have h1 := k1 y hf
    have ea : (group.all fun x => aloneP p n (nullP p S n) (moreP (offP n group) x) x) = false := List.all_eq_false.mpr ⟨y, List.mem_of_find?_eq_some hf, by
      have := List.find?_some hf
      simpa using this⟩
    rw [ea]
    exact mFn_rt rfl (seq_rt (for_ok (ds := group.map eN) rfl h1))
end Pl
set_option Elab.async false
set_option linter.all false
set_option maxRecDepth 100000
set_option maxHeartbeats 4000000
namespace Pl
open PySem Ly Mf L2
/-! forward elimination on what is left of the rows -/
def elimP (p : Nat) (F : List Nat) : List Nat → List Nat
  | [] => []
  | 0 :: t => t
  | (c + 1) :: t => lessP p (c + 1) t F
def headNZ : List (List Nat) → Option (Nat × List Nat)
  | [] => none
  | [] :: rs => headNZ rs
  | (0 :: _) :: rs => headNZ rs
  | ((c + 1) :: t) :: _ => some (c + 1, t)
def rkGo (p : Nat) : Nat → List (List Nat) → Nat
  | 0, _ => 0
  | w + 1, rows => match headNZ rows with
    | none => rkGo p w (rows.map List.tail)
    | some (c, t) => rkGo p w (rows.map (elimP p (ledP p (invP p c) t))) + 1
theorem drop_less (p c : Nat) : ∀ (k : Nat) (a b : List Nat), (lessP p c a b).drop k = lessP p c (a.drop k) (b.drop k)
  | 0, _, _ => rfl
  | k + 1, [], _ => by simp [lessP]
  | k + 1, _ :: a, [] => by
    show ([] : List Nat) = lessP p c (a.drop k) ([] : List Nat)
    cases a.drop k <;> rfl
  | k + 1, x :: a, y :: b => drop_less p c k a b
theorem drop_cons_nth : ∀ {r : List Nat} {s : Nat}, s < r.length → r.drop s = nth r s :: r.drop (s + 1)
  | a :: r, 0, _ => rfl
  | a :: r, s + 1, h => drop_cons_nth (r := r) (s := s) (Nat.lt_of_succ_lt_succ h)
theorem less_c0 {p : Nat} : ∀ {a b : List Nat}, a.length = b.length → (∀ x ∈ a, x < p) → lessP p 0 a b = a
  | [], _, _, _ => rfl
  | x :: a, y :: b, h, hx => by
    show (x + (p - 0) * y) % p :: lessP p 0 a b = _
    rw [less_c0 (Nat.succ.inj h) fun z hz => hx z (List.mem_cons_of_mem _ hz), Nat.sub_zero, Nat.add_mul_mod_self_left, Nat.mod_eq_of_lt (hx x (List.mem_cons_self ..))]
theorem headNZ_find {p w s : Nat} (hs : s < w) : ∀ {rows : List (List Nat)}, (∀ r ∈ rows, GoodR p w r) → headNZ (rows.map (List.drop s)) = ((rows.filter fun r => decide (0 < nth r s)).head?).map fun f => (nth f s, f.drop (s + 1))
  | [], _ => rfl
  | r :: rows, h => by
    have ih := headNZ_find hs (rows := rows) fun q hq => h q (List.mem_cons_of_mem _ hq)
    have hr := h r (List.mem_cons_self ..)
    rw [List.map_cons, drop_cons_nth (by rw [hr.1]; exact hs)]
    cases e : nth r s with
    | zero =>
      rw [List.filter_cons_of_neg (by rw [e]; decide)]
      exact ih
    | succ c =>
      rw [List.filter_cons_of_pos (by rw [e]; exact decide_eq_true (Nat.succ_pos c))]
      show some (c + 1, r.drop (s + 1)) = some (nth r s, r.drop (s + 1))
      rw [e]
theorem rk_fold {p w : Nat} (hp : 1 < p) (hi : PInv p) : ∀ (n s : Nat) (st : List (List Nat) × List Nat), s + n = w → (∀ r ∈ st.1, GoodR p w r) →
    ((List.range' s n).foldl (stepF p) st).2.length = st.2.length + rkGo p n (st.1.map (List.drop s))
  | 0, s, st, _, _ => rfl
  | n + 1, s, st, hw, h => by
    have hs : s < w := by omega
    have hh := headNZ_find hs h
    rw [List.range'_succ, List.foldl_cons]
    unfold rkGo
    cases hf : st.1.filter (fun r => decide (0 < nth r s)) with
    | nil =>
      rw [hf] at hh
      have e0 : stepF p st s = st := by unfold stepF; rw [hf]
      rw [e0, rk_fold (w := w) hp hi n (s + 1) st (by omega) h, hh]
      show _ = st.2.length + rkGo p n ((st.1.map (List.drop s)).map List.tail)
      rw [List.map_map]
      congr 2
      exact List.map_congr_left fun r _ => by
        show r.drop (s + 1) = (r.drop s).tail
        rw [List.tail_drop]
    | cons f fs =>
      rw [hf] at hh
      obtain ⟨fm, fp⟩ := List.mem_filter.mp (by rw [hf]; exact List.mem_cons_self .. : f ∈ st.1.filter fun x => decide (0 < nth x s))
      have gf := h f fm
      have gF : GoodR p w (ledP p (invP p (nth f s)) f) := gf.led (show 0 < p by omega)
      have e0 : stepF p st s = (lessAll p s (ledP p (invP p (nth f s)) f) st.1, st.2 ++ [s]) := by unfold stepF; rw [hf]
      rw [e0, hh]
      show _ = st.2.length + (rkGo p n ((st.1.map (List.drop s)).map (elimP p (ledP p (invP p (nth f s)) (f.drop (s + 1))))) + 1)
      rw [rk_fold (w := w) hp hi n (s + 1) _ (by omega) (fun r hr => by
        obtain ⟨q, hq, e⟩ := List.mem_map.mp hr
        rw [← e]
        exact (h q hq).less (by omega) gF)]
      show (st.2 ++ [s]).length + rkGo p n ((lessAll p s (ledP p (invP p (nth f s)) f) st.1).map (List.drop (s + 1))) = _
      have eF : (ledP p (invP p (nth f s)) f).drop (s + 1) = ledP p (invP p (nth f s)) (f.drop (s + 1)) := by unfold ledP; rw [List.map_drop]
      have em : (lessAll p s (ledP p (invP p (nth f s)) f) st.1).map (List.drop (s + 1)) = (st.1.map (List.drop s)).map (elimP p (ledP p (invP p (nth f s)) (f.drop (s + 1)))) := by
        unfold lessAll
        rw [List.map_map, List.map_map]
        refine List.map_congr_left fun r hr => ?_
        show (lessP p (nth r s) r (ledP p (invP p (nth f s)) f)).drop (s + 1) = elimP p _ (r.drop s)
        have gr := h r hr
        rw [drop_less, eF, drop_cons_nth (s := s) (by rw [gr.1]; exact hs)]
        cases e : nth r s with
        | zero =>
          show lessP p 0 (r.drop (s + 1)) _ = r.drop (s + 1)
          refine less_c0 ?_ fun x hx => gr.2 x (List.mem_of_mem_drop hx)
          unfold ledP
          rw [List.length_map, List.length_drop, List.length_drop, gr.1, gf.1]
        | succ c => rfl
      rw [em, List.length_append]
      simp only [List.length_cons, List.length_nil]
      omega
theorem rk_eq {p w : Nat} {rows : List (List Nat)} (hp : 1 < p) (hi : PInv p) (h : ∀ r ∈ rows, GoodR p w r) : (pivF p rows w).length = rkGo p w rows := by
  have := rk_fold hp hi w 0 (rows, []) (by omega) h
  unfold pivF
  rw [List.range_eq_range', this]
  show 0 + rkGo p w (rows.map (List.drop 0)) = _
  rw [Nat.zero_add]
  congr 1
  exact (List.map_congr_left fun r _ => rfl).trans (List.map_id _)
theorem pivF_sub {p : Nat} : ∀ (ls : List Nat) (st : List (List Nat) × List Nat), ∃ q, (ls.foldl (stepF p) st).2 = st.2 ++ q ∧ q.Sublist ls
  | [], st => ⟨[], by simp, List.Sublist.slnil⟩
  | s :: ls, st => by
    obtain ⟨q, e, hs⟩ := pivF_sub (p := p) ls (stepF p st s)
    rw [List.foldl_cons]
    have h2 : (stepF p st s).2 = st.2 ∨ (stepF p st s).2 = st.2 ++ [s] := by
      unfold stepF
      split
      · exact .inl rfl
      · exact .inr rfl
    rcases h2 with z | z
    · rw [z] at e
      exact ⟨q, e, hs.cons s⟩
    · rw [z, List.append_assoc] at e
      exact ⟨s :: q, e, hs.cons_cons s⟩
theorem null_empty {p w : Nat} {rows : List (List Nat)} (hp : 1 < p) (hi : PInv p) (h : ∀ r ∈ rows, GoodR p w r) (hr : rkGo p w rows = w) : nullP p rows w = [] := by
  have e1 := (red_inv (w := w) hp hi h).2
  obtain ⟨q, e, hs⟩ := pivF_sub (p := p) (List.range w) (rows, [])
  have e2 : pivF p rows w = List.range w := by
    have l := rk_eq hp hi h
    rw [hr] at l
    unfold pivF at l ⊢
    rw [e] at l ⊢
    exact hs.eq_of_length (by rw [List.length_range]; exact l)
  unfold nullP
  rw [e1, e2]
  have e3 : freesP (List.range w) w = [] := List.filter_eq_nil_iff.mpr fun s hs => by
    have : (List.range w).contains s = true := List.contains_iff_mem.mpr hs
    rw [this]; decide
  rw [e3, List.map_nil, red_nil]
def wordsOnP (p : Nat) (rows : List (List Nat)) (w : Nat) : List (List Nat) := if rkGo p w rows = w then [] else nullP p rows w
theorem wordsOn_eq {p w : Nat} {rows : List (List Nat)} (hp : 1 < p) (hi : PInv p) (h : ∀ r ∈ rows, GoodR p w r) : wordsOnP p rows w = nullP p rows w := by
  unfold wordsOnP
  split
  · next e => rw [null_empty hp hi h e]
  · rfl
theorem rankP_eq {p n : Nat} {W : List (List Nat)} {lot : List Nat} (hp : 1 < p) (hi : PInv p) (hW : ∀ r ∈ W, GoodR p n r) (hl : ∀ x ∈ lot, x < n) : rankP p W lot = rkGo p lot.length (cutP W lot) := by
  unfold rankP
  cases lot with
  | nil => rfl
  | cons a as => exact rk_eq hp hi (cut_good hW hl)
end Pl
set_option Elab.async false
set_option linter.all false
set_option maxRecDepth 100000
set_option maxHeartbeats 4000000
namespace Pl
open PySem Ly Mf L2
theorem eN_len {α : Type} (xs : List α) (enc : α → PyData) : PyData.int (((xs.map enc).length : Nat) : Int) = eN xs.length := by rw [List.length_map]; rfl
theorem cut_m {p n : Nat} {rows : List (List Nat)} {lot : List Nat} (h : Good p n rows) (hl : ∀ x ∈ lot, x < n) (hz : lot.length ≤ 1000) : m_cut_rows [.tuple (rows.map eR), eR lot] = some (.list ((cutP rows lot).map eR)) := by
  have hc : ((cutP rows lot).map eR).length ≤ 100000 := by
    unfold cutP
    rw [List.length_map, List.length_map]
    have := h.1
    omega
  refine mFn_rt rfl (ret_ok (lM_ok (lc_ok (ds := rows.map eR) rfl ?_ hc)))
  unfold cutP
  rw [List.map_map]
  refine lcGo_all eR (fun x => eR (lot.map (nth x))) rows fun x hx => ⟨[.val (.tuple (rows.map eR)), .val (eR lot), .val (eR x), .no], rfl, ?_⟩
  refine tupOf_l (lc_ok (ds := lot.map eN) rfl (cutrow_m (n := n) fun y hy => ⟨[.val (.tuple (rows.map eR)), .val (eR lot), .val (eR x), .val (eN y)], rfl, ix_ok (d := eR x) rfl rfl (j := Int.ofNat y) rfl (at_eN (by rw [(h.2 x hx).1]; exact hl y hy))⟩) ?_)
  rw [List.length_map, List.length_map]
  omega
theorem won_m {p n : Nat} {S rows : List (List Nat)} {lot : List Nat} (hp : 1 < p) (hp2 : p < 1000) (hi : PInv p) (h : Good p n rows) (hl : ∀ x ∈ lot, x < n) (hz : lot.length ≤ 1000) :
    m_words_on [eB p n S, .tuple (rows.map eR), eR lot] = some (.tuple ((wordsOnP p (cutP rows lot) lot.length).map eR)) := by
  have cg := cut_good h.2 hl
  rw [wordsOn_eq hp hi cg]
  have hlen : mLen (mVar 2) [.val (eB p n S), .val (.tuple (rows.map eR)), .val (eR lot)] = some (eN lot.length) := by
    rw [len_ok (d := eR lot) (ds := lot.map eN) rfl rfl, eN_len]
  exact mFn_rt rfl (ret_ok (call_ok (cons_ok (d := eN p) rfl (cons_ok (call_ok (cons_ok (d := .tuple (rows.map eR)) rfl (cons_ok (d := eR lot) rfl nil_ok)) (cut_m h hl hz)) (cons_ok hlen nil_ok))) (null_m hp hp2 hi hz ⟨by unfold cutP; rw [List.length_map]; exact h.1, cg⟩ rfl)))
def spreadP (n : Nat) (lot row : List Nat) : List Nat := (lot.zip row).foldl (fun f x => f.set x.1 x.2) (List.replicate n 0)
theorem spread_m {n : Nat} {lot row : List Nat} (hn : n ≤ 1000) (hl : ∀ x ∈ lot, x < n) : m_spread_row [eR row, eR lot, eN n] = some (eR (spreadP n lot row)) := by
  have s1 : mSetO 3 (mLc (mRg1 (mVar 2)) (.nm 4) mYes (mC (.int 0)) [4]) [.val (eR row), .val (eR lot), .val (eN n), .no, .no, .no] = some (.nx [.val (eR row), .val (eR lot), .val (eN n), .own ((List.replicate n 0).map eN), .no, .no]) := by
    have q := lcGo_all eN (fun _ => PyData.int 0) (tg := .nm 4) (me := mC (.int 0)) (r := [.val (eR row), .val (eR lot), .val (eN n), .no, .no, .no]) (List.range n) fun s _ => ⟨[.val (eR row), .val (eR lot), .val (eN n), .no, .val (eN s), .no], rfl, rfl⟩
    have e : (List.range n).map (fun _ => PyData.int 0) = (List.replicate n 0).map eN := by
      rw [List.map_const', List.length_range, List.map_replicate]; rfl
    rw [e] at q
    refine setO_ok (lc_ok (ds := (List.range n).map eN) ?_ q ?_)
    · rw [← rg_eN]
      exact rg1_ok rfl (okRg_eN (by omega))
    · rw [List.length_map, List.length_replicate]
      omega
  obtain ⟨r', h1, h2⟩ := forGo_fold (fun (f : List Nat) r => f.length = n ∧ ∃ j4 j5, r = [.val (eR row), .val (eR lot), .val (eN n), .own (f.map eN), j4, j5]) (fun x : Nat × Nat => PyData.tuple [eN x.1, eN x.2]) (fun f (x : Nat × Nat) => f.set x.1 x.2) (tg := .pr 4 5) (m := mPut 3 (mVar 4) (mVar 5))
    (lot.zip row) (fun x hx f r hr => by
      obtain ⟨hl', j4, j5, e⟩ := hr
      subst e
      exact ⟨[.val (eR row), .val (eR lot), .val (eN n), .own (f.map eN), .val (eN x.1), .val (eN x.2)], _, rfl, put_m (found := f) (x := x.2) (n := x.1) rfl rfl rfl (by rw [hl']; exact hl x.1 (List.of_mem_zip hx).1), by rw [List.length_set]; exact hl', .val (eN x.1), .val (eN x.2), rfl⟩)
    (List.replicate n 0) [.val (eR row), .val (eR lot), .val (eN n), .own ((List.replicate n 0).map eN), .no, .no] ⟨List.length_replicate, .no, .no, rfl⟩
  obtain ⟨_, j4, j5, e⟩ := h2
  subst e
  rw [← zip_eN] at h1
  exact mFn_rt rfl (seq_nx s1 (seq_nx (for_ok (ds := zipD (lot.map eN) (row.map eN)) rfl h1) (ret_ok rfl)))
theorem places_m {n : Nat} (hn : n ≤ 1000) : m_all_places [eN n] = some (.list ((List.range n).map eN)) := by
  refine mFn_rt rfl (ret_ok (lM_ok ?_))
  rw [← rg_eN]
  exact rg1_ok rfl (okRg_eN (by omega))
theorem sums_m {p n : Nat} {S : List (List Nat)} (hp : 1 < p) (hp2 : p < 1000) (hn : n ≤ 1000) (h : Good p n S) : m_sums_in [eB p n S] = some (.tuple ((redA p S n).map eR)) :=
  mFn_rt rfl (ret_ok (call_ok (cons_ok (d := eN p) rfl (cons_ok (d := .tuple (S.map eR)) rfl (cons_ok (d := eN n) rfl nil_ok))) (reduced_m hp hp2 (Nat.le_refl n) hn h rfl)))
/-! lots -/
def lastLt (lot : List Nat) (x : Nat) : Bool := match lot with
  | [] => true
  | a :: as => decide ((a :: as).getLast (by simp) < x)
def extA (n : Nat) (lot : List Nat) : List (List Nat) := ((List.range n).filter (lastLt lot)).map fun x => lot ++ [x]
def stepL (n : Nat) (found : List (List Nat)) : List (List Nat) := (found.map (extA n)).flatten
def lotsA (n : Nat) : Nat → List (List Nat)
  | 0 => [[]]
  | m + 1 => stepL n (lotsA n m)
theorem lots_fold (n : Nat) : ∀ m, (List.range m).foldl (fun f (_ : Nat) => stepL n f) [[]] = lotsA n m
  | 0 => rfl
  | m + 1 => by
    rw [List.range_succ, List.foldl_append, lots_fold n m]; rfl
theorem lots_ok (n : Nat) : ∀ m, ∀ lot ∈ lotsA n m, lot.length = m ∧ ∀ x ∈ lot, x < n
  | 0, lot, h => by
    rw [List.mem_singleton.mp h]
    exact ⟨rfl, fun x hx => by cases hx⟩
  | m + 1, lot, h => by
    obtain ⟨l, hl, h2⟩ := List.mem_flatten.mp h
    obtain ⟨q, hq, e⟩ := List.mem_map.mp hl
    subst e
    obtain ⟨x, hx, e⟩ := List.mem_map.mp h2
    obtain ⟨h3, h4⟩ := lots_ok n m q hq
    subst e
    refine ⟨by rw [List.length_append, h3]; rfl, fun y hy => ?_⟩
    rcases List.mem_append.mp hy with z | z
    · exact h4 y z
    · rw [List.mem_singleton.mp z]
      exact List.mem_range.mp (List.mem_filter.mp hx).1
theorem lc2Go_map {α : Type} (enc : α → PyData) (f : α → List PyData) {tg tg1 : Tg} {mi1 : ML} {mt1 : MB} {me : ME} {vs1 : List Nat} {r : List Sl} : ∀ (xs : List α), (∀ x ∈ xs, ∃ r1 es, setT tg (enc x) r = some r1 ∧ mi1 r1 = some es ∧ lcGo tg1 mt1 me (wipeR r1 vs1) es = some (f x)) →
    lc2Go tg mi1 tg1 mt1 me vs1 r (xs.map enc) = some (xs.map f).flatten
  | [], _ => rfl
  | x :: xs, h => by
    obtain ⟨r1, es, h1, h2, h3⟩ := h x (List.mem_cons_self ..)
    have ih := lc2Go_map enc f (tg := tg) (tg1 := tg1) (mi1 := mi1) (mt1 := mt1) (me := me) (vs1 := vs1) (r := r) xs fun y hy => h y (List.mem_cons_of_mem _ hy)
    show (setT tg (enc x) r).bind _ = _
    rw [h1]
    show (mi1 r1).bind _ = _
    rw [h2]
    show (lcGo tg1 mt1 me (wipeR r1 vs1) es).bind _ = _
    rw [h3]
    show (lc2Go tg mi1 tg1 mt1 me vs1 r (xs.map enc)).map _ = _
    rw [ih]; rfl
theorem last_at {a : Nat} {as : List Nat} : L2.atI ((a :: as).map eN) (-1) = some (eN ((a :: as).getLast (by simp))) := by
  unfold L2.atI L2.ixN
  rw [if_neg (by decide), if_pos (by rw [List.length_map, List.length_cons]; omega)]
  show ((a :: as).map eN)[((-1 : Int) + (((a :: as).map eN).length : Nat)).toNat]? = _
  have e : ((-1 : Int) + (((a :: as).map eN).length : Nat)).toNat = as.length := by rw [List.length_map, List.length_cons]; omega
  rw [e, List.getElem?_map, List.getLast_eq_getElem]
  rw [List.getElem?_eq_getElem (by simp)]
  rfl
abbrev lotT : MB := mOrB (mCmpB pEq (mLen (mVar 4)) (mC (.int 0))) (mCmpB pGt (mVar 5) (mIx (mVar 4) (mNeg (mC (.int 1)))))
theorem lotT_m {r : List Sl} {lot : List Nat} {x : Nat} (h4 : mVar 4 r = some (eR lot)) (h5 : mVar 5 r = some (eN x)) : lotT r = some (lastLt lot x) := by
  have e0 : mCmpB pEq (mLen (mVar 4)) (mC (.int 0)) r = some (decide (lot = [])) := by
    have := eqN_m (r := r) (ma := mLen (mVar 4)) (mb := mC (.int 0)) (a := lot.length) (b := 0) (by rw [len_ok h4 (ds := lot.map eN) rfl, eN_len]) rfl
    rw [this]
    cases lot <;> rfl
  show (mCmpB pEq (mLen (mVar 4)) (mC (.int 0)) r).bind _ = _
  rw [e0]
  cases lot with
  | nil => rfl
  | cons a as =>
    rw [decide_eq_false (by intro z; cases z)]
    show mCmpB pGt (mVar 5) (mIx (mVar 4) (mNeg (mC (.int 1)))) r = _
    rw [cmp_ok (p := pGt) (i := Int.ofNat x) (j := Int.ofNat ((a :: as).getLast (by simp))) (iM_of h5) (iM_of (ix_ok h4 (ds := (a :: as).map eN) rfl (j := -1) rfl last_at))]
    exact congrArg some (decide_eq_decide.mpr ⟨fun z => Int.ofNat_lt.mp z, fun z => Int.ofNat_lt.mpr z⟩)
theorem lots_m {n m : Nat} {d : PyData} (hm : m ≤ 1000) (hn : n ≤ 1000) (hd : asSeq d = some ((List.range n).map eN)) (hb : ∀ j, j ≤ m → (lotsA n j).length ≤ 8000) : m_lots_of [d, eN m] = some (.list ((lotsA n m).map eR)) := by
  obtain ⟨r', h1, h2⟩ := forGo_fold2 (fun (ys : List Nat) (f : List (List Nat)) r => (∃ k, k + ys.length = m ∧ f = lotsA n k) ∧ ∃ j, r = [.val d, .val (eN m), .val (.list (f.map eR)), j, .no, .no]) eN (fun f (_ : Nat) => stepL n f) (tg := .nm 3)
    (m := mSet 2 (lM (mLc2 (mSeq (mVar 2)) (.nm 4) (mSeq (mVar 0)) (.nm 5) lotT (mTup (mStar (mVar 4) (mCons (mVar 5) mNil))) [4, 5] [5])))
    (List.range m) (fun x _ ys f r hr => by
      obtain ⟨⟨k, hk, ek⟩, j, e⟩ := hr
      have hk2 : k + 1 + ys.length = m := by rw [← hk, List.length_cons]; omega
      subst e
      refine ⟨[.val d, .val (eN m), .val (.list (f.map eR)), .val (eN x), .no, .no], _, rfl, ?_, ⟨k + 1, hk2, by rw [ek]; rfl⟩, .val (eN x), rfl⟩
      refine set_ok (d := .list ((stepL n f).map eR)) (lM_ok ?_)
      have q := lc2Go_map eR (fun lot => (extA n lot).map eR) (tg := .nm 4) (tg1 := .nm 5) (mi1 := mSeq (mVar 0)) (mt1 := lotT) (me := mTup (mStar (mVar 4) (mCons (mVar 5) mNil))) (vs1 := [5]) (r := [.val d, .val (eN m), .val (.list (f.map eR)), .val (eN x), .no, .no]) f fun lot hlot =>
        ⟨[.val d, .val (eN m), .val (.list (f.map eR)), .val (eN x), .val (eR lot), .no], (List.range n).map eN, rfl, seq_ok (d := d) rfl hd, by
          have ll : lot.length = k := (lots_ok n k lot (by rw [← ek]; exact hlot)).1
          unfold extA
          rw [List.map_map]
          exact lcGo_map eN (lastLt lot) (fun y => eR (lot ++ [y])) (List.range n) fun y _ => ⟨[.val d, .val (eN m), .val (.list (f.map eR)), .val (eN x), .val (eR lot), .val (eN y)], rfl, lotT_m rfl rfl, fun _ => by
            show (if okSz (lot.map eN ++ [eN y]) = true then some (PyData.tuple (lot.map eN ++ [eN y])) else none) = _
            have hz : okSz (lot.map eN ++ [eN y]) = true := decide_eq_true (by rw [List.length_append, List.length_map]; simp only [List.length_cons, List.length_nil]; omega)
            rw [if_pos hz]
            show _ = some (PyData.tuple ((lot ++ [y]).map eN))
            rw [List.map_append]; rfl⟩⟩
      have e2 : (f.map fun lot => (extA n lot).map eR).flatten = (stepL n f).map eR := by
        unfold stepL
        rw [List.map_flatten, List.map_map]; rfl
      rw [e2] at q
      unfold mLc2
      show (lc2Go (.nm 4) (mSeq (mVar 0)) (.nm 5) lotT (mTup (mStar (mVar 4) (mCons (mVar 5) mNil))) [5] [.val d, .val (eN m), .val (.list (f.map eR)), .val (eN x), .no, .no] (f.map eR)).bind _ = _
      rw [q]
      refine if_pos (decide_eq_true ?_)
      have hb2 := hb (k + 1) (by omega)
      rw [List.length_map, ek]
      show (lotsA n (k + 1)).length ≤ 100000
      omega) [[]] [.val d, .val (eN m), .val (.list [eR []]), .no, .no, .no] ⟨⟨0, by rw [List.length_range]; omega, rfl⟩, .no, rfl⟩
  obtain ⟨_, j, e⟩ := h2
  subst e
  rw [← rg_eN, lots_fold] at h1
  exact mFn_rt rfl (seq_nx (r1 := [.val d, .val (eN m), .val (.list [eR []]), .no, .no, .no]) rfl (seq_nx (for_ok (rg1_ok (j := Int.ofNat m) rfl (okRg_eN (by omega))) h1) (ret_ok rfl)))
end Pl
set_option Elab.async false
set_option linter.all false
set_option maxRecDepth 100000
set_option maxHeartbeats 4000000
namespace Pl
open PySem Ly Mf L2
def levelP (p n : Nat) (sums : List (List Nat)) (m : Nat) : List (List Nat) := ((lotsA n m).map fun lot => (wordsOnP p (cutP sums lot) lot.length).map (spreadP n lot)).flatten
def lwP (p n : Nat) (sums : List (List Nat)) : Nat → Nat → List (List Nat)
  | 0, _ => []
  | k + 1, m => if m ≤ n then (match levelP p n sums m with
    | [] => lwP p n sums k (m + 1)
    | x :: xs => x :: xs) else []
theorem foldl_app {α β : Type} (g : α → List β) : ∀ (xs : List α) (f : List β), xs.foldl (fun f x => f ++ g x) f = f ++ (xs.map g).flatten
  | [], f => by simp
  | x :: xs, f => by
    rw [List.foldl_cons, foldl_app g xs, List.map_cons, List.flatten_cons, List.append_assoc]
theorem wordsOn_len {p w : Nat} {rows : List (List Nat)} : (wordsOnP p rows w).length ≤ w := by
  unfold wordsOnP
  split
  · exact Nat.zero_le _
  · exact red_len
abbrev lwI : MS := mExt 3 (mLc (mSeq (mCall m_words_on (mCons (mVar 0) (mCons (mVar 1) (mCons (mVar 5) mNil))))) (.nm 6) mYes (mCall m_spread_row (mCons (mVar 6) (mCons (mVar 5) (mCons (mVar 2) mNil)))) [6])
abbrev lwT : MB := mAndB (mCmpB pEq (mLen (mOwn 3)) (mC (.int 0))) (mCmpB pLe (mVar 4) (mVar 2))
abbrev lwB : MS := mSeq2 (mFor (mSeq (mCall m_lots_of (mCons (mCall m_all_places (mCons (mVar 2) mNil)) (mCons (mVar 4) mNil)))) (.nm 5) lwI) (mAug 4 (mC (.int 1)))
section
variable {p n m : Nat} {S sums : List (List Nat)}
theorem lw_level (hp : 1 < p) (hp2 : p < 1000) (hi : PInv p) (hn : n ≤ 12) (hm : m ≤ n) (h : Good p n sums) (hb : ∀ j, j ≤ m → (lotsA n j).length ≤ 8000) (j5 : Sl) :
    ∃ j5', lwB [.val (eB p n S), .val (.tuple (sums.map eR)), .val (eN n), .own [], .val (eN m), j5, .no] = some (.nx [.val (eB p n S), .val (.tuple (sums.map eR)), .val (eN n), .own ((levelP p n sums m).map eR), .val (eN (m + 1)), j5', .no]) := by
  have hlots : mSeq (mCall m_lots_of (mCons (mCall m_all_places (mCons (mVar 2) mNil)) (mCons (mVar 4) mNil))) [.val (eB p n S), .val (.tuple (sums.map eR)), .val (eN n), .own [], .val (eN m), j5, .no] = some ((lotsA n m).map eR) :=
    seq_ok (call_ok (cons_ok (call_ok (cons_ok (d := eN n) rfl nil_ok) (places_m (by omega))) (cons_ok (d := eN m) rfl nil_ok)) (lots_m (by omega) (by omega) rfl hb)) rfl
  obtain ⟨r', h1, h2⟩ := forGo_fold2 (fun (ys : List (List Nat)) (f : List (List Nat)) r => f.length + 12 * ys.length ≤ 96000 ∧ ∃ j, r = [.val (eB p n S), .val (.tuple (sums.map eR)), .val (eN n), .own (f.map eR), .val (eN m), j, .no]) eR (fun f lot => f ++ (wordsOnP p (cutP sums lot) lot.length).map (spreadP n lot)) (tg := .nm 5) (m := lwI)
    (lotsA n m) (fun lot hlot ys f r hr => by
      obtain ⟨hz, j, e⟩ := hr
      subst e
      obtain ⟨l1, l2⟩ := lots_ok n m lot hlot
      have hwl := wordsOn_len (p := p) (w := lot.length) (rows := cutP sums lot)
      have hz2 : f.length + 12 * ys.length + 12 ≤ 96000 := by rw [List.length_cons] at hz; omega
      refine ⟨[.val (eB p n S), .val (.tuple (sums.map eR)), .val (eN n), .own (f.map eR), .val (eN m), .val (eR lot), .no], _, rfl, ?_, ?_, .val (eR lot), rfl⟩
      · have q : mLc (mSeq (mCall m_words_on (mCons (mVar 0) (mCons (mVar 1) (mCons (mVar 5) mNil))))) (.nm 6) mYes (mCall m_spread_row (mCons (mVar 6) (mCons (mVar 5) (mCons (mVar 2) mNil)))) [6] [.val (eB p n S), .val (.tuple (sums.map eR)), .val (eN n), .own (f.map eR), .val (eN m), .val (eR lot), .no] = some (((wordsOnP p (cutP sums lot) lot.length).map (spreadP n lot)).map eR) := by
          refine lc_ok (seq_ok (call_ok (cons_ok (d := eB p n S) rfl (cons_ok (d := .tuple (sums.map eR)) rfl (cons_ok (d := eR lot) rfl nil_ok))) (won_m hp hp2 hi h l2 (by omega))) rfl) ?_ (by rw [List.length_map, List.length_map]; omega)
          rw [List.map_map]
          exact lcGo_all eR (fun row => eR (spreadP n lot row)) (wordsOnP p (cutP sums lot) lot.length) fun row _ => ⟨[.val (eB p n S), .val (.tuple (sums.map eR)), .val (eN n), .own (f.map eR), .val (eN m), .val (eR lot), .val (eR row)], rfl, call_ok (cons_ok (d := eR row) rfl (cons_ok (d := eR lot) rfl (cons_ok (d := eN n) rfl nil_ok))) (spread_m (by omega) l2)⟩
        show (ownD 3 _).bind _ = _
        have eo : ownD 3 [.val (eB p n S), .val (.tuple (sums.map eR)), .val (eN n), .own (f.map eR), .val (eN m), .val (eR lot), .no] = some (f.map eR) := rfl
        rw [eo]
        show (mLc _ _ _ _ _ _).bind _ = _
        rw [q]
        show (if (okSz (f.map eR) && okSz (((wordsOnP p (cutP sums lot) lot.length).map (spreadP n lot)).map eR)) = true then _ else none) = _
        have e1 : okSz (f.map eR) = true := decide_eq_true (by rw [List.length_map]; omega)
        have e2 : okSz (((wordsOnP p (cutP sums lot) lot.length).map (spreadP n lot)).map eR) = true := decide_eq_true (by rw [List.length_map, List.length_map]; omega)
        rw [e1, e2, if_pos (by rfl)]
        show some (Out.nx [.val (eB p n S), .val (.tuple (sums.map eR)), .val (eN n), .own (f.map eR ++ ((wordsOnP p (cutP sums lot) lot.length).map (spreadP n lot)).map eR), .val (eN m), .val (eR lot), .no]) = _
        rw [← List.map_append]
      · show (f ++ (wordsOnP p (cutP sums lot) lot.length).map (spreadP n lot)).length + 12 * ys.length ≤ 96000
        rw [List.length_append, List.length_map]
        omega) [] [.val (eB p n S), .val (.tuple (sums.map eR)), .val (eN n), .own [], .val (eN m), j5, .no] ⟨by have := hb m (Nat.le_refl m); simp only [List.length_nil]; omega, j5, rfl⟩
  obtain ⟨_, j, e⟩ := h2
  rw [foldl_app, List.nil_append] at e
  subst e
  exact ⟨j, seq_nx (for_ok hlots h1) rfl⟩
theorem lwT_m {found : List (List Nat)} {j5 : Sl} {d1 : Sl} : lwT [.val (eB p n S), d1, .val (eN n), .own (found.map eR), .val (eN m), j5, .no] = some (found.isEmpty && decide (m ≤ n)) := by
  have e0 : mCmpB pEq (mLen (mOwn 3)) (mC (.int 0)) [.val (eB p n S), d1, .val (eN n), .own (found.map eR), .val (eN m), j5, .no] = some found.isEmpty := by
    have := eqN_m (r := [.val (eB p n S), d1, .val (eN n), .own (found.map eR), .val (eN m), j5, .no]) (ma := mLen (mOwn 3)) (mb := mC (.int 0)) (a := found.length) (b := 0) (by rw [len_ok (d := .list (found.map eR)) (ds := found.map eR) rfl rfl, eN_len]) rfl
    rw [this]
    cases found <;> rfl
  show (mCmpB pEq (mLen (mOwn 3)) (mC (.int 0)) _).bind _ = _
  rw [e0]
  cases found with
  | cons x xs => rfl
  | nil =>
    show mCmpB pLe (mVar 4) (mVar 2) [.val (eB p n S), d1, .val (eN n), .own [], .val (eN m), j5, .no] = some (decide (m ≤ n))
    rw [cmp_ok (p := pLe) (i := Int.ofNat m) (j := Int.ofNat n) rfl rfl]
    exact congrArg some (decide_eq_decide.mpr ⟨fun z => Int.ofNat_le.mp z, fun z => Int.ofNat_le.mpr z⟩)
theorem lw_go (hp : 1 < p) (hp2 : p < 1000) (hi : PInv p) (hn : n ≤ 12) (h : Good p n sums) (hb : ∀ j, j ≤ n → (lotsA n j).length ≤ 8000) : ∀ (k m : Nat) (j5 : Sl), m ≤ n + 1 → n + 2 ≤ k + m →
    ∃ j4 j5', whGo lwT lwB k [.val (eB p n S), .val (.tuple (sums.map eR)), .val (eN n), .own [], .val (eN m), j5, .no] = some (.nx [.val (eB p n S), .val (.tuple (sums.map eR)), .val (eN n), .own ((lwP p n sums k m).map eR), j4, j5', .no])
  | 0, m, j5, h1, h2 => by omega
  | k + 1, m, j5, h1, h2 => by
    have t := lwT_m (p := p) (n := n) (m := m) (S := S) (found := []) (j5 := j5) (d1 := .val (.tuple (sums.map eR)))
    have w : whGo lwT lwB (k + 1) [.val (eB p n S), .val (.tuple (sums.map eR)), .val (eN n), .own [], .val (eN m), j5, .no] = (if decide (m ≤ n) = true then (lwB [.val (eB p n S), .val (.tuple (sums.map eR)), .val (eN n), .own [], .val (eN m), j5, .no]).bind (fun o => match o with
        | .nx r2 => whGo lwT lwB k r2
        | .rt e => some (.rt e)) else some (.nx [.val (eB p n S), .val (.tuple (sums.map eR)), .val (eN n), .own [], .val (eN m), j5, .no])) := by
      show (lwT _).bind _ = _
      have t2 : lwT [.val (eB p n S), .val (.tuple (sums.map eR)), .val (eN n), .own [], .val (eN m), j5, .no] = some (decide (m ≤ n)) := t
      rw [t2]; rfl
    rw [w]
    unfold lwP
    by_cases hm : m ≤ n
    · rw [if_pos (decide_eq_true hm), if_pos hm]
      obtain ⟨j5', hl⟩ := lw_level (S := S) hp hp2 hi hn hm h (fun j hj => hb j (by omega)) j5
      rw [hl]
      show ∃ j4 j5'', whGo lwT lwB k [.val (eB p n S), .val (.tuple (sums.map eR)), .val (eN n), .own ((levelP p n sums m).map eR), .val (eN (m + 1)), j5', .no] = _
      cases hv : levelP p n sums m with
      | nil => exact lw_go hp hp2 hi hn h hb k (m + 1) j5' (by omega) (by omega)
      | cons x xs =>
        cases k with
        | zero => omega
        | succ k =>
          refine ⟨.val (eN (m + 1)), j5', ?_⟩
          show (lwT _).bind _ = _
          rw [lwT_m (found := x :: xs)]
          rfl
    · rw [if_neg (by rw [decide_eq_false hm]; decide), if_neg hm]
      exact ⟨.val (eN m), j5, rfl⟩
theorem mlw_m (hp : 1 < p) (hp2 : p < 1000) (hi : PInv p) (hn : n ≤ 12) (h : Good p n S) (hb : ∀ j, j ≤ n → (lotsA n j).length ≤ 8000) : mLW [eB p n S] = some ((lwP p n (redA p S n) 1000 1).map eR) := by
  have gs : Good p n (redA p S n) := ⟨Nat.le_trans red_len (by omega), fun r hr => (red_good hp hi h.2 r hr).1⟩
  have hs := sums_m (S := S) hp hp2 (by omega) h
  generalize redA p S n = sums at gs hs
  obtain ⟨j4, j5, hg⟩ := lw_go (S := S) hp hp2 hi hn gs hb 1000 1 .no (by omega) (by omega)
  have s1 : lw1 [.val (eB p n S), .no, .no, .no, .no, .no, .no] = some (.nx [.val (eB p n S), .val (.tuple (sums.map eR)), .val (eN n), .no, .no, .no, .no]) := by
    have q : mCall m_sums_in (mCons (mVar 0) mNil) [.val (eB p n S), .no, .no, .no, .no, .no, .no] = some (.tuple (sums.map eR)) := call_ok (cons_ok (d := eB p n S) rfl nil_ok) hs
    unfold lw1 mPar sV
    rw [q]; rfl
  show (lw1 [.val (eB p n S), .no, .no, .no, .no, .no, .no]).bind _ = _
  rw [s1]
  show (lw3 [.val (eB p n S), .val (.tuple (sums.map eR)), .val (eN n), .own [], .val (eN 1), .no, .no]).bind _ = _
  have hg2 : lw3 [.val (eB p n S), .val (.tuple (sums.map eR)), .val (eN n), .own [], .val (eN 1), .no, .no] = _ := hg
  rw [hg2]
  rfl
end
theorem allRows_eR : ∀ rows : List (List Nat), allRows (rows.map eR) = some (rows.map fun r => r.map Int.ofNat)
  | [] => rfl
  | x :: rows => by
    show (asTup (eR x)).bind _ = _
    show (allInt (x.map eN)).bind _ = _
    rw [allInt_eN]
    show (allRows (rows.map eR)).map _ = _
    rw [allRows_eR rows]; rfl
def wtP (r : List Nat) : Nat := (r.filter fun x => decide (0 < x)).length
theorem wt_N (r : List Nat) : wt (r.map Int.ofNat) = wtP r := by
  unfold wt wtP
  rw [List.filter_map, List.length_map]
  congr 1
  refine List.filter_congr fun x _ => ?_
  exact decide_eq_decide.mpr ⟨fun z => Int.ofNat_lt.mp z, fun z => Int.ofNat_lt.mpr z⟩
/-- what must be seen of the rows found -/
def foundOk (n d : Nat) : List (List Nat) → Bool
  | [] => false
  | f :: fs => decide ((f :: fs).length < 64) && (decide (1 ≤ n ∧ n ≤ 1000) && (f :: fs).all fun l => decide (l.length = n) && ((l.all fun x => decide (x < 1000)) && decide (wtP l = d)))
theorem apart_m {p n d : Nat} {S F : List (List Nat)} (h : mLW [eB p n S] = some (F.map eR)) (hF : foundOk n d F = true) : m_apart_in [eB p n S] = some (eN d) := by
  cases F with
  | nil => cases hF
  | cons f fs =>
    unfold foundOk at hF
    simp only [Bool.and_eq_true, decide_eq_true_eq, List.all_eq_true] at hF
    obtain ⟨h1, ⟨h2, h3⟩, h4⟩ := hF
    show (mLW [eB p n S]).bind _ = _
    rw [h]
    show (allRows ((f :: fs).map eR)).bind _ = _
    rw [allRows_eR]
    have hf := h4 f (List.mem_cons_self ..)
    show (if (decide (((f :: fs).map fun r => r.map Int.ofNat).length < 64) && (decide (1 ≤ (f.map Int.ofNat).length) && (decide ((f.map Int.ofNat).length ≤ 100000) && ((f :: fs).map fun r => r.map Int.ofNat).all fun l => okRow (f.map Int.ofNat).length l && decide (wt l = wt (f.map Int.ofNat))))) = true then some (PyData.int (wt (f.map Int.ofNat))) else none) = _
    rw [if_pos]
    · rw [wt_N, hf.2.2]; rfl
    · simp only [Bool.and_eq_true, decide_eq_true_eq, List.all_eq_true, List.length_map]
      refine ⟨h1, by rw [hf.1]; exact h2, by rw [hf.1]; omega, fun l hl => ?_⟩
      obtain ⟨q, hq, e⟩ := List.mem_map.mp hl
      have hq2 := h4 q hq
      subst e
      refine ⟨?_, by rw [wt_N, wt_N, hq2.2.2, hf.2.2]⟩
      unfold okRow
      simp only [Bool.and_eq_true, decide_eq_true_eq, List.all_eq_true, List.length_map]
      refine ⟨by rw [hq2.1, hf.1], fun z hz => ?_⟩
      obtain ⟨y, hy, e⟩ := List.mem_map.mp hz
      subst e
      exact ⟨Int.natCast_nonneg y, Int.ofNat_lt.mpr (show y < 1073741824 from Nat.lt_trans (hq2.2.1 y hy) (by decide))⟩
end Pl
set_option Elab.async false
set_option linter.all false
set_option maxRecDepth 100000
set_option maxHeartbeats 4000000
namespace Pl
open PySem Ly Mf L2
def stepLL (size : Nat) (found : List (List Nat)) (k : Nat) : List (List Nat) := found ++ (found.filter fun l => decide (l.length < size)).map fun l => l ++ [k]
def lotsL (n size : Nat) : List (List Nat) := ((List.range n).foldl (stepLL size) [[]]).filter fun l => l.length == size
theorem ltN_m {ma mb : ME} {r : List Sl} {a b : Nat} (ha : ma r = some (eN a)) (hb : mb r = some (eN b)) : mCmpB pLt ma mb r = some (decide (a < b)) := by
  rw [cmp_ok (p := pLt) (i := Int.ofNat a) (j := Int.ofNat b) (iM_of ha) (iM_of hb)]
  exact congrArg some (decide_eq_decide.mpr ⟨fun z => Int.ofNat_lt.mp z, fun z => Int.ofNat_lt.mpr z⟩)
def okLL (n : Nat) (ys : List Nat) (f : List (List Nat)) : Prop := f.length * 2 ^ ys.length ≤ 65536 ∧ (∀ l ∈ f, l.length + ys.length ≤ n) ∧ ∀ l ∈ f, ∀ x ∈ l, x < n
theorem okLL_step {n size k : Nat} {ys : List Nat} {f : List (List Nat)} (hk : k < n) (h : okLL n (k :: ys) f) : okLL n ys (stepLL size f k) := by
  obtain ⟨h1, h2, h3⟩ := h
  have hl : ((f.filter fun l => decide (l.length < size)).map fun l => l ++ [k]).length ≤ f.length := by rw [List.length_map]; exact List.length_filter_le _ _
  refine ⟨?_, fun l hl => ?_, fun l hl x hx => ?_⟩
  · rw [List.length_cons, Nat.pow_succ] at h1
    unfold stepLL
    rw [List.length_append]
    have : (f.length + ((f.filter fun l => decide (l.length < size)).map fun l => l ++ [k]).length) * 2 ^ ys.length ≤ (f.length + f.length) * 2 ^ ys.length := Nat.mul_le_mul_right _ (by omega)
    refine Nat.le_trans this ?_
    rw [← Nat.two_mul, Nat.mul_comm 2, Nat.mul_assoc, Nat.mul_comm 2]
    exact h1
  · rcases List.mem_append.mp hl with q | q
    · have := h2 l q
      rw [List.length_cons] at this
      omega
    · obtain ⟨z, hz, e⟩ := List.mem_map.mp q
      have := h2 z (List.mem_filter.mp hz).1
      rw [List.length_cons] at this
      rw [← e, List.length_append]
      simp only [List.length_cons, List.length_nil]
      omega
  · rcases List.mem_append.mp hl with q | q
    · exact h3 l q x hx
    · obtain ⟨z, hz, e⟩ := List.mem_map.mp q
      rw [← e] at hx
      rcases List.mem_append.mp hx with w | w
      · exact h3 z (List.mem_filter.mp hz).1 x w
      · rw [List.mem_singleton.mp w]; exact hk
theorem pow12 {n : Nat} (h : n ≤ 12) : 1 * 2 ^ n ≤ 65536 := by
  rw [Nat.one_mul]
  exact Nat.le_trans (Nat.pow_le_pow_right (by decide) h) (by decide)
theorem fold_okLL {n size : Nat} : ∀ (ls : List Nat) (f : List (List Nat)), (∀ k ∈ ls, k < n) → okLL n ls f → okLL n [] (ls.foldl (stepLL size) f)
  | [], f, _, h => h
  | k :: ls, f, hk, h => fold_okLL ls _ (fun x hx => hk x (List.mem_cons_of_mem _ hx)) (okLL_step (hk k (List.mem_cons_self ..)) h)
theorem start_okLL {n : Nat} (hn : n ≤ 12) : okLL n (List.range n) [[]] := ⟨by rw [List.length_range]; exact pow12 hn, fun l hl => by rw [List.mem_singleton.mp hl, List.length_range]; exact Nat.le_of_eq (Nat.zero_add n), fun l hl x hx => by rw [List.mem_singleton.mp hl] at hx; cases hx⟩
theorem lotsL_lt {n size : Nat} (hn : n ≤ 12) : ∀ l ∈ lotsL n size, ∀ x ∈ l, x < n := fun l hl => (fold_okLL (size := size) (List.range n) [[]] (fun k hk => List.mem_range.mp hk) (start_okLL hn)).2.2 l (List.mem_filter.mp hl).1
theorem lawlots_m {n size : Nat} (hn : n ≤ 12) (hs : size ≤ 1000) : m__law_lots [eN n, eN size] = some (.list ((lotsL n size).map eR)) := by
  obtain ⟨r', h1, h2⟩ := forGo_fold2 (fun (ys : List Nat) (f : List (List Nat)) r => okLL n ys f ∧ ∃ j, r = [.val (eN n), .val (eN size), .val (.list (f.map eR)), j, .no]) eN (stepLL size) (tg := .nm 3)
    (m := mSet 2 (lM (mCatL (mVar 2) (lM (mLc (mSeq (mVar 2)) (.nm 4) (mCmpB pLt (mLen (mVar 4)) (mVar 1)) (mCatT (mVar 4) (mTup (mCons (mVar 3) mNil))) [4])))))
    (List.range n) (fun k hk ys f r hr => by
      obtain ⟨ok, j, e⟩ := hr
      subst e
      refine ⟨[.val (eN n), .val (eN size), .val (.list (f.map eR)), .val (eN k), .no], _, rfl, set_ok (d := .list ((stepLL size f k).map eR)) (lM_ok ?_), okLL_step (List.mem_range.mp hk) ok, .val (eN k), rfl⟩
      have hf : f.length ≤ 65536 := Nat.le_trans (Nat.le_mul_of_pos_right _ (Nat.two_pow_pos _)) ok.1
      have q : lM (mLc (mSeq (mVar 2)) (.nm 4) (mCmpB pLt (mLen (mVar 4)) (mVar 1)) (mCatT (mVar 4) (mTup (mCons (mVar 3) mNil))) [4]) [.val (eN n), .val (eN size), .val (.list (f.map eR)), .val (eN k), .no] = some (.list (((f.filter fun l => decide (l.length < size)).map fun l => l ++ [k]).map eR)) := by
        refine lM_ok (lc_ok (ds := f.map eR) rfl ?_ (by rw [List.length_map, List.length_map]; have := List.length_filter_le (fun l => decide (l.length < size)) f; omega))
        rw [List.map_map]
        refine lcGo_map eR (fun l => decide (l.length < size)) (fun l => eR (l ++ [k])) f fun l hl => ⟨[.val (eN n), .val (eN size), .val (.list (f.map eR)), .val (eN k), .val (eR l)], rfl, ltN_m (by rw [len_ok (d := eR l) (ds := l.map eN) rfl rfl, eN_len]) rfl, fun _ => ?_⟩
        have hl2 := ok.2.1 l hl
        exact catT_m (xs := l) (ys := [k]) rfl rfl (by omega) (by simp)
      unfold mCatL
      rw [q]
      show (if (okSz (f.map eR) && okSz (((f.filter fun l => decide (l.length < size)).map fun l => l ++ [k]).map eR)) = true then some (f.map eR ++ ((f.filter fun l => decide (l.length < size)).map fun l => l ++ [k]).map eR) else none) = _
      have e1 : okSz (f.map eR) = true := decide_eq_true (by rw [List.length_map]; omega)
      have e2 : okSz (((f.filter fun l => decide (l.length < size)).map fun l => l ++ [k]).map eR) = true := decide_eq_true (by rw [List.length_map, List.length_map]; have := List.length_filter_le (fun l => decide (l.length < size)) f; omega)
      rw [e1, e2, if_pos (by rfl)]
      unfold stepLL
      rw [List.map_append]) [[]] [.val (eN n), .val (eN size), .val (.list [eR []]), .no, .no] ⟨start_okLL hn, .no, rfl⟩
  obtain ⟨ok, j, e⟩ := h2
  subst e
  rw [← rg_eN] at h1
  have q : lM (mLc (mSeq (mVar 2)) (.nm 4) (mCmpB pEq (mLen (mVar 4)) (mVar 1)) (mVar 4) [4]) [.val (eN n), .val (eN size), .val (.list (((List.range n).foldl (stepLL size) [[]]).map eR)), j, .no] = some (.list ((lotsL n size).map eR)) := by
    have hf : ((List.range n).foldl (stepLL size) [[]]).length ≤ 65536 := by
      have := ok.1
      simpa using this
    refine lM_ok (lc_ok (ds := ((List.range n).foldl (stepLL size) [[]]).map eR) rfl ?_ (by
      rw [List.length_map]
      have := List.length_filter_le (fun l : List Nat => l.length == size) ((List.range n).foldl (stepLL size) [[]])
      unfold lotsL
      omega))
    exact lcGo_map eR (fun l => l.length == size) eR _ fun l hl => ⟨[.val (eN n), .val (eN size), .val (.list (((List.range n).foldl (stepLL size) [[]]).map eR)), j, .val (eR l)], rfl, eqN_m (by rw [len_ok (d := eR l) (ds := l.map eN) rfl rfl, eN_len]) rfl, fun _ => rfl⟩
  exact mFn_rt rfl (seq_nx (r1 := [.val (eN n), .val (eN size), .val (.list [eR []]), .no, .no]) rfl (seq_nx (for_ok (rg1_ok (j := Int.ofNat n) rfl (okRg_eN (by omega))) h1) (ret_ok q)))
def farP (p n : Nat) (W : List (List Nat)) (lot : List Nat) : Bool := decide (rankP p W (offP n lot) < W.length)
def lawApartP (p n : Nat) (W : List (List Nat)) : Option Nat := ((List.range n).map (· + 1)).find? fun m => (lotsL n m).any fun lot => farP p n W lot
theorem lawapart_m {p n : Nat} {S : List (List Nat)} {d : Nat} (hp : 1 < p) (hp2 : p < 1000) (hi : PInv p) (hn : n ≤ 12) (h : Good p n S) (hd : lawApartP p n (nullP p S n) = some d) : m__law_apart [eB p n S] = some (eN d) := by
  have hW := words_good (S := S) (n := n) hp hi (by omega)
  have hw := words_m hp hp2 hi (by omega) h
  generalize nullP p S n = W at hW hw hd
  have s1 : mSet 1 (mCall m__law_words (mCons (mVar 0) mNil)) [.val (eB p n S), .no, .no, .no] = some (.nx [.val (eB p n S), .val (.list (W.map eR)), .no, .no]) := set_ok (call_ok (cons_ok (d := eB p n S) rfl nil_ok) hw)
  obtain ⟨k1, _⟩ := forGo_find (fun r => ∃ j2 j3, r = [.val (eB p n S), .val (.list (W.map eR)), j2, j3]) eN (fun m => (lotsL n m).any fun lot => farP p n W lot) eN (tg := .nm 2)
    (m := mFor (mSeq (mCall m__law_lots (mCons (mIx (mVar 0) (mC (.int 1))) (mCons (mVar 2) mNil)))) (.nm 3) (mIfS (mCmpB pLt (mCall m__law_rank (mCons (mIx (mVar 0) (mC (.int 0))) (mCons (mVar 1) (mCons (mCall m__law_off (mCons (mVar 0) (mCons (mVar 3) mNil))) mNil)))) (mLen (mVar 1))) (mRet (mVar 2)) mSkip))
    ((List.range n).map (· + 1)) (fun m hm r hr => by
      obtain ⟨j2, j3, e⟩ := hr
      subst e
      obtain ⟨m0, hm0, em⟩ := List.mem_map.mp hm
      have hmn : m ≤ n := by have := List.mem_range.mp hm0; omega
      have hlots : mSeq (mCall m__law_lots (mCons (mIx (mVar 0) (mC (.int 1))) (mCons (mVar 2) mNil))) [.val (eB p n S), .val (.list (W.map eR)), .val (eN m), j3] = some ((lotsL n m).map eR) :=
        seq_ok (call_ok (cons_ok (d := eN n) rfl (cons_ok (d := eN m) rfl nil_ok)) (lawlots_m hn (by omega))) rfl
      obtain ⟨i1, i2⟩ := forGo_find (fun r => ∃ j3, r = [.val (eB p n S), .val (.list (W.map eR)), .val (eN m), j3]) eR (fun lot => farP p n W lot) (fun _ => eN m) (tg := .nm 3)
        (m := mIfS (mCmpB pLt (mCall m__law_rank (mCons (mIx (mVar 0) (mC (.int 0))) (mCons (mVar 1) (mCons (mCall m__law_off (mCons (mVar 0) (mCons (mVar 3) mNil))) mNil)))) (mLen (mVar 1))) (mRet (mVar 2)) mSkip)
        (lotsL n m) (fun lot hlot r hr => by
          obtain ⟨j3, e⟩ := hr
          subst e
          have t : mCmpB pLt (mCall m__law_rank (mCons (mIx (mVar 0) (mC (.int 0))) (mCons (mVar 1) (mCons (mCall m__law_off (mCons (mVar 0) (mCons (mVar 3) mNil))) mNil)))) (mLen (mVar 1)) [.val (eB p n S), .val (.list (W.map eR)), .val (eN m), .val (eR lot)] = some (farP p n W lot) :=
            ltN_m (call_ok (cons_ok (d := eN p) rfl (cons_ok (d := .list (W.map eR)) rfl (cons_ok (call_ok (cons_ok (d := eB p n S) rfl (cons_ok (d := eR lot) rfl nil_ok)) (off_m (by omega))) nil_ok))) (rank_m hp hp2 hi hW (off_lt (n := n) (lot := lot)) (by have := off_len (n := n) (lot := lot); omega))) (by rw [len_ok (d := .list (W.map eR)) (ds := W.map eR) rfl rfl, eN_len])
          refine ⟨[.val (eB p n S), .val (.list (W.map eR)), .val (eN m), .val (eR lot)], rfl, fun hc => ?_, fun hc => ⟨_, ?_, .val (eR lot), rfl⟩⟩
          · rw [hc] at t
            exact if_t t (ret_ok rfl)
          · rw [hc] at t
            exact if_f t rfl) [.val (eB p n S), .val (.list (W.map eR)), .val (eN m), j3] ⟨j3, rfl⟩
      refine ⟨[.val (eB p n S), .val (.list (W.map eR)), .val (eN m), j3], rfl, fun hc => ?_, fun hc => ?_⟩
      · obtain ⟨lot, hlot, hl⟩ := List.any_eq_true.mp hc
        cases hf : (lotsL n m).find? (fun lot => farP p n W lot) with
        | none =>
          have := List.find?_eq_none.mp hf lot hlot
          exact absurd hl this
        | some y => exact for_ok hlots (i1 y hf)
      · have hf : (lotsL n m).find? (fun lot => farP p n W lot) = none := List.find?_eq_none.mpr fun lot hlot => by
          have := List.any_eq_false.mp hc lot hlot
          exact this
        obtain ⟨r', h1, j3', e⟩ := i2 hf
        exact ⟨r', for_ok hlots h1, .val (eN m), j3', e⟩) [.val (eB p n S), .val (.list (W.map eR)), .no, .no] ⟨.no, .no, rfl⟩
  have h1 := k1 d hd
  have e2 : rgD 1 (Int.ofNat (n + 1)) = ((List.range n).map (· + 1)).map eN := rg1_eN (p := n + 1) (by omega)
  rw [← e2] at h1
  refine mFn_rt rfl (seq_nx s1 (seq_rt (for_ok (rg2_ok (i := 1) (j := Int.ofNat (n + 1)) rfl rfl (decide_eq_true ⟨by decide, by decide, Int.le_trans (by decide) (Int.natCast_nonneg (n + 1)), Int.ofNat_le.mpr (show n + 1 ≤ 100000 by omega)⟩)) h1)))
end Pl
set_option Elab.async false
set_option linter.all false
set_option maxRecDepth 100000
set_option maxHeartbeats 4000000
namespace Pl
open PySem Ly Mf L2
theorem andB_t {t u : MB} {r : List Sl} {b : Option Bool} (h1 : t r = some true) (h2 : u r = b) : mAndB t u r = b := by
  unfold mAndB
  rw [h1]; exact h2
theorem andB_f {t u : MB} {r : List Sl} (h1 : t r = some false) : mAndB t u r = some false := by
  unfold mAndB
  rw [h1]; rfl
theorem andE_t {t u : ME} {r : List Sl} {d : Option PyData} (h1 : t r = some (.bool true)) (h2 : u r = d) : mAnd t u r = d := by
  unfold mAnd bM
  rw [h1]; exact h2
theorem bE_ok {t : MB} {r : List Sl} {b : Bool} (h : t r = some b) : bE t r = some (.bool b) := by
  unfold bE
  rw [h]; rfl
def powRow (p : Nat) (nums : List Nat) (e : Nat) : List Nat := nums.map fun a => a ^ e % p
def powRows (p : Nat) (nums exps : List Nat) : List (List Nat) := exps.map (powRow p nums)
section
variable {p n : Nat} {nums exps : List Nat} {S : List (List Nat)}
theorem powrows_m (hp : 1 < p) (hp2 : p < 1000000) (ha : ∀ a ∈ nums, a < 1000000) (he : ∀ e ∈ exps, e < 1000) (h1 : nums.length ≤ 1000) (h2 : exps.length ≤ 1000) : m_power_rows [eN p, eR nums, eR exps] = some (.tuple ((powRows p nums exps).map eR)) := by
  refine mFn_rt rfl (ret_ok (tupOf_l (lc_ok (ds := exps.map eN) rfl ?_ (by unfold powRows; rw [List.length_map, List.length_map]; omega))))
  unfold powRows
  rw [List.map_map]
  refine lcGo_all eN (fun e => eR (powRow p nums e)) exps fun e hee => ⟨[.val (eN p), .val (eR nums), .val (eR exps), .val (eN e), .no], rfl, ?_⟩
  refine tupOf_l (lc_ok (ds := nums.map eN) rfl ?_ (by unfold powRow; rw [List.length_map, List.length_map]; omega))
  unfold powRow
  rw [List.map_map]
  exact lcGo_all eN (fun a => eN (a ^ e % p)) nums fun a haa => ⟨[.val (eN p), .val (eR nums), .val (eR exps), .val (eN e), .val (eN a)], rfl, call_ok (cons_ok (d := eN p) rfl (cons_ok (d := eN a) rfl (cons_ok (d := eN e) rfl nil_ok))) (pow_m hp hp2 (ha a haa) (he e hee))⟩
theorem worths_m {dn de : PyData} (hn : asSeq dn = some (nums.map eN)) (hd : asSeq de = some (exps.map eN)) (hp : 1 < p) (hp2 : p < 1000000) (he : ∀ e ∈ exps, e < 1000) (h1 : nums.length ≤ 1000) (h2 : exps.length ≤ 1000) : m__law_worths [eN p, dn, de] = some (.list ((powRows p nums exps).map eR)) := by
  refine mFn_rt rfl (ret_ok (lM_ok (lc_ok (ds := exps.map eN) (seq_ok (d := de) rfl hd) ?_ (by unfold powRows; rw [List.length_map, List.length_map]; omega))))
  unfold powRows
  rw [List.map_map]
  refine lcGo_all eN (fun e => eR (powRow p nums e)) exps fun e hee => ⟨[.val (eN p), .val dn, .val de, .val (eN e), .no], rfl, ?_⟩
  refine tupOf_l (lc_ok (ds := nums.map eN) (seq_ok (d := dn) rfl hn) ?_ (by unfold powRow; rw [List.length_map, List.length_map]; omega))
  unfold powRow
  rw [List.map_map]
  exact lcGo_all eN (fun a => eN (a ^ e % p)) nums fun a haa => ⟨[.val (eN p), .val dn, .val de, .val (eN e), .val (eN a)], rfl, call_ok (cons_ok (d := eN p) rfl (cons_ok (d := eN a) rfl (cons_ok (d := eN e) rfl nil_ok))) (lpow_m hp hp2 (Nat.le_of_lt (he e hee)))⟩
theorem pow_good (hp : 1 < p) (h2 : exps.length ≤ 1000) : Good p nums.length (powRows p nums exps) := by
  refine ⟨by unfold powRows; rw [List.length_map]; omega, fun r hr => ?_⟩
  obtain ⟨e, _, er⟩ := List.mem_map.mp hr
  rw [← er]
  refine ⟨by unfold powRow; rw [List.length_map], fun x hx => ?_⟩
  obtain ⟨a, _, ea⟩ := List.mem_map.mp hx
  rw [← ea]
  exact Nat.mod_lt _ (by omega)
/-- the book by powers -/
def bkS (p : Nat) (nums exps : List Nat) : List (List Nat) := nullP p (powRows p nums exps) nums.length
theorem book_m (hp : 1 < p) (hp2 : p < 1000) (hi : PInv p) (ha : ∀ a ∈ nums, a < 1000000) (he : ∀ e ∈ exps, e < 1000) (h1 : nums.length ≤ 1000) (h2 : exps.length ≤ 1000) : m_book_by_powers [eN p, eR nums, eR exps] = some (eB p nums.length (bkS p nums exps)) := by
  have hb : m_book_of_words [eN p, eN nums.length, .tuple ((powRows p nums exps).map eR)] = some (eB p nums.length (bkS p nums exps)) := by
    refine mFn_rt rfl (ret_ok ?_)
    have q := null_m (w := nums.length) (d := .tuple ((powRows p nums exps).map eR)) hp hp2 hi h1 (pow_good (nums := nums) hp h2) rfl
    have q2 : mCons (mVar 0) (mCons (mVar 1) (mCons (mCall m_null_by (mCons (mVar 0) (mCons (mVar 2) (mCons (mVar 1) mNil)))) mNil)) [.val (eN p), .val (eN nums.length), .val (.tuple ((powRows p nums exps).map eR))] = some [eN p, eN nums.length, .tuple ((bkS p nums exps).map eR)] :=
      cons_ok rfl (cons_ok rfl (cons_ok (call_ok (cons_ok (d := eN p) rfl (cons_ok (d := .tuple ((powRows p nums exps).map eR)) rfl (cons_ok (d := eN nums.length) rfl nil_ok))) q) nil_ok))
    unfold mTup
    show (mCons (mVar 0) _ _).bind _ = _
    exact (congrArg (fun z => Option.bind z fun ds => if okSz ds then some (PyData.tuple ds) else none) q2).trans rfl
  have hlen : mLen (mVar 1) [.val (eN p), .val (eR nums), .val (eR exps)] = some (eN nums.length) := by rw [len_ok (d := eR nums) (ds := nums.map eN) rfl rfl, eN_len]
  exact mFn_rt rfl (ret_ok (call_ok (cons_ok (d := eN p) rfl (cons_ok hlen (cons_ok (call_ok (cons_ok (d := eN p) rfl (cons_ok (d := eR nums) rfl (cons_ok (d := eR exps) rfl nil_ok))) (powrows_m hp (by omega) ha he h1 h2)) nil_ok))) hb))
theorem bk_good (hp : 1 < p) (hi : PInv p) (h1 : nums.length ≤ 1000) : Good p nums.length (bkS p nums exps) := words_good hp hi h1
/-! far enough -/
theorem apartof_m {b d : PyData} (h : (m_want_book [b, .str "book"]).isSome = true) (ha : m_apart_in [b] = some d) : m_apart_of [b] = some d := by
  obtain ⟨z, hz⟩ := Option.isSome_iff_exists.mp h
  refine mFn_rt rfl (seq_nx (r1 := [.val b]) ?_ (ret_ok (call_ok (cons_ok (d := b) rfl nil_ok) ha)))
  show (mCall (fun ds => m_want_book (ds ++ [.str "book"])) (mCons (mVar 0) mNil) [.val b]).map _ = _
  have q : mCall (fun ds => m_want_book (ds ++ [.str "book"])) (mCons (mVar 0) mNil) [.val b] = some z := call_ok (cons_ok (d := b) rfl nil_ok) hz
  rw [q]; rfl
theorem far_skip (hn : 11 < n) (he : exps.length < 5) : m__law_far_enough [eB p n S, .list (exps.map eN)] = some (.bool true) := by
  refine mFn_rt rfl (seq_rt (if_t ?_ (ret_ok rfl)))
  have t1 : mCmpB pGt (mIx (mVar 0) (mC (.int 1))) (mC (.int 11)) [.val (eB p n S), .val (.list (exps.map eN)), .no] = some true := by
    rw [cmp_ok (p := pGt) (i := Int.ofNat n) (j := 11) rfl rfl]
    exact congrArg some (decide_eq_true (show (11 : Int) < Int.ofNat n from Int.ofNat_lt.mpr hn))
  have t2 : mCmpB pLt (mLen (mVar 1)) (mC (.int 5)) [.val (eB p n S), .val (.list (exps.map eN)), .no] = some true := by
    rw [cmp_ok (p := pLt) (i := Int.ofNat exps.length) (j := 5) (iM_of (by rw [len_ok (d := .list (exps.map eN)) (ds := exps.map eN) rfl rfl, eN_len])) rfl]
    exact congrArg some (decide_eq_true (show Int.ofNat exps.length < (5 : Int) from Int.ofNat_lt.mpr he))
  exact andB_t t1 t2
theorem far_ok {a : Nat} {as : List Nat} {d : Nat} (ee : exps = a :: as) (h0 : ¬ (11 < n ∧ exps.length < 5)) (h1 : m_apart_of [eB p n S] = some (eN d)) (h2 : m__law_apart [eB p n S] = some (eN d)) (h3 : n ≤ d + (a :: as).getLast (by simp)) :
    m__law_far_enough [eB p n S, .list (exps.map eN)] = some (.bool true) := by
  have t1 : mCmpB pGt (mIx (mVar 0) (mC (.int 1))) (mC (.int 11)) [.val (eB p n S), .val (.list (exps.map eN)), .no] = some (decide (11 < n)) := by
    rw [cmp_ok (p := pGt) (i := Int.ofNat n) (j := 11) rfl rfl]
    exact congrArg some (decide_eq_decide.mpr ⟨fun z => Int.ofNat_lt.mp z, fun z => Int.ofNat_lt.mpr z⟩)
  have t2 : mCmpB pLt (mLen (mVar 1)) (mC (.int 5)) [.val (eB p n S), .val (.list (exps.map eN)), .no] = some (decide (exps.length < 5)) := by
    rw [cmp_ok (p := pLt) (i := Int.ofNat exps.length) (j := 5) (iM_of (by rw [len_ok (d := .list (exps.map eN)) (ds := exps.map eN) rfl rfl, eN_len])) rfl]
    exact congrArg some (decide_eq_decide.mpr ⟨fun z => Int.ofNat_lt.mp z, fun z => Int.ofNat_lt.mpr z⟩)
  have t : mAndB (mCmpB pGt (mIx (mVar 0) (mC (.int 1))) (mC (.int 11))) (mCmpB pLt (mLen (mVar 1)) (mC (.int 5))) [.val (eB p n S), .val (.list (exps.map eN)), .no] = some false := by
    by_cases hn : 11 < n
    · rw [decide_eq_true hn] at t1
      rw [decide_eq_false (fun z => h0 ⟨hn, z⟩)] at t2
      exact andB_t t1 t2
    · rw [decide_eq_false hn] at t1
      exact andB_f t1
  refine mFn_rt rfl (seq_nx (if_f t rfl) (seq_nx (set_ok (call_ok (cons_ok (d := eB p n S) rfl nil_ok) h1)) (ret_ok ?_)))
  have r1 := eqN_m (r := [.val (eB p n S), .val (.list (exps.map eN)), .val (eN d)]) (ma := mVar 2) (mb := mCall m__law_apart (mCons (mVar 0) mNil)) (a := d) (b := d) rfl (call_ok (cons_ok (d := eB p n S) rfl nil_ok) h2)
  have hsub : iM (mBin Ly.gSub (mIx (mVar 0) (mC (.int 1))) (mIx (mVar 1) (mNeg (mC (.int 1))))) [.val (eB p n S), .val (.list (exps.map eN)), .val (eN d)] = some (Int.ofNat n - Int.ofNat ((a :: as).getLast (by simp))) :=
    iM_of (bin_ok (i := Int.ofNat n) rfl (iM_of (ix_ok (d := .list (exps.map eN)) rfl rfl (j := -1) rfl (by rw [ee]; exact last_at))) rfl)
  have r2 := cmp_ok (p := pGe) (r := [.val (eB p n S), .val (.list (exps.map eN)), .val (eN d)]) (ma := mVar 2) (i := Int.ofNat d) rfl hsub
  have e : pGe (Int.ofNat d) (Int.ofNat n - Int.ofNat ((a :: as).getLast (by simp))) = true := decide_eq_true (by
    show (n : Int) - ((a :: as).getLast (by simp) : Nat) ≤ (d : Int)
    omega)
  rw [e] at r2
  rw [beq_self_eq_true d] at r1
  exact andE_t (bE_ok r1) (bE_ok r2)
end
/-! what the kernel looks at: how far the words of a book lie apart -/
def farF (p n : Nat) (W : List (List Nat)) (lot : List Nat) : Bool := decide (rkGo p (offP n lot).length (cutP W (offP n lot)) < W.length)
def lawApartF (p n : Nat) (W : List (List Nat)) : Option Nat := ((List.range n).map (· + 1)).find? fun m => (lotsL n m).any fun lot => farF p n W lot
theorem farF_eq {p n : Nat} {W : List (List Nat)} {lot : List Nat} (hp : 1 < p) (hi : PInv p) (hW : ∀ r ∈ W, GoodR p n r) : farP p n W lot = farF p n W lot := by
  unfold farP farF
  rw [rankP_eq hp hi hW off_lt]
theorem lawApartF_eq {p n : Nat} {W : List (List Nat)} (hp : 1 < p) (hi : PInv p) (hW : ∀ r ∈ W, GoodR p n r) : lawApartP p n W = lawApartF p n W := by
  unfold lawApartP lawApartF
  congr 1
  funext m
  congr 1
  funext lot
  exact farF_eq hp hi hW
def apB (p : Nat) (nums exps : List Nat) (d : Nat) : Bool :=
  foundOk nums.length d (lwP p nums.length (redA p (bkS p nums exps) nums.length) 1000 1) && (match lawApartF p nums.length (nullP p (bkS p nums exps) nums.length) with
    | some e => Nat.beq e d
    | none => false)
end Pl
set_option Elab.async false
set_option linter.all false
set_option maxRecDepth 100000
set_option maxHeartbeats 4000000
namespace Pl
open PySem Ly Mf L2
theorem neN_m {ma mb : ME} {r : List Sl} {a b : Nat} (ha : ma r = some (eN a)) (hb : mb r = some (eN b)) : mCmpB pNe ma mb r = some (!(a == b)) := by
  rw [cmp_ok (p := pNe) (i := Int.ofNat a) (j := Int.ofNat b) (iM_of ha) (iM_of hb)]
  refine congrArg some ?_
  show (!(Int.ofNat a == Int.ofNat b)) = _
  congr 1
  by_cases e : a = b
  · subst e; simp
  · rw [beq_eq_false_iff_ne.mpr e]
    exact beq_eq_false_iff_ne.mpr fun z => e (Int.ofNat.inj z)
theorem orB_f {t u : MB} {r : List Sl} {b : Option Bool} (h1 : t r = some false) (h2 : u r = b) : mOrB t u r = b := by
  unfold mOrB
  rw [h1]; exact h2
theorem notB_ok {m : ME} {r : List Sl} {b : Bool} (h : m r = some (.bool b)) : mNotB (bM m) r = some (!b) := by
  unfold mNotB bM
  rw [h]; rfl
theorem addN_m {ma mb : ME} {r : List Sl} {a b : Nat} (ha : ma r = some (eN a)) (hb : mb r = some (eN b)) : mBin gAdd ma mb r = some (eN (a + b)) := bin_ok (iM_of ha) (iM_of hb) rfl
theorem mulN_m {ma mb : ME} {r : List Sl} {a b : Nat} (ha : ma r = some (eN a)) (hb : mb r = some (eN b)) (h : a < 1000000) : mBin gMul ma mb r = some (eN (a * b)) := bin_ok (iM_of ha) (iM_of hb) (mul_ok (smallI h).1 (smallI h).2)
theorem sh_N (r : List Nat) : SeqAt.shaped (.list (r.map eN)) = true := by
  obtain ⟨h1, h2⟩ := shp_N r
  unfold SeqAt.shaped
  simp only [PyData.canLay0, PyData.depth, h1, Bool.true_and]
  exact decide_eq_true (by omega)
/-- the groups that fail: none -/
theorem groups_m {p n c : Nat} {S small : List (List Nat)} {i j : Nat} {mc : ME} {r : List Sl} {mb : ME} (hp : 1 < p) (hp2 : p < 1000) (hi : PInv p) (hn : n < 60) (h : Good p n S)
    (hs : ∀ gr ∈ small, gr.length = c ∧ groupP p n (nullP p S n) gr = true ∧ ∀ x ∈ gr, x < n)
    (hr : ∀ gr ∈ small, ∃ r1, setT (.nm j) (eR gr) r = some r1 ∧ mVar j r1 = some (eR gr) ∧ mb r1 = some (eB p n S) ∧ mc r1 = some (eN c)) :
    lcGo (.nm j) (mOrB (mCmpB pNe (mLen (mVar j)) mc) (mNotB (bM (mCall m__law_group_right (mCons mb (mCons (mVar j) mNil)))))) (mVar j) r (small.map eR) = some [] := by
  have q := lcGo_map eR (fun _ => false) eR (tg := .nm j) (mt := mOrB (mCmpB pNe (mLen (mVar j)) mc) (mNotB (bM (mCall m__law_group_right (mCons mb (mCons (mVar j) mNil)))))) (me := mVar j) (r := r) small fun gr hgr => by
    obtain ⟨r1, h1, h2, h3, h4⟩ := hr gr hgr
    obtain ⟨g1, g2, g3⟩ := hs gr hgr
    refine ⟨r1, h1, ?_, fun z => by cases z⟩
    have t1 := neN_m (r := r1) (ma := mLen (mVar j)) (mb := mc) (a := gr.length) (b := c) (by rw [len_ok h2 (ds := gr.map eN) rfl, eN_len]) h4
    rw [g1, beq_self_eq_true c] at t1
    have t2 := notB_ok (call_ok (cons_ok h3 (cons_ok h2 nil_ok)) (group_m hp hp2 hi hn h g3))
    rw [g2] at t2
    exact orB_f t1 t2
  rw [q]
  have : small.filter (fun _ => false) = [] := by induction small <;> simp_all
  rw [this]; rfl
def smallB (p n few : Nat) (W : List (List Nat)) (small : List (List Nat)) : Bool :=
  (small.all fun gr => Nat.beq gr.length (few + 1) && (groupP p n W gr && gr.all fun x => decide (x < n))) && (decide (sortN small.flatten = List.range n) && Nat.beq small.flatten.length n)
theorem small_m {p n few : Nat} {S small : List (List Nat)} (hp : 1 < p) (hp2 : p < 1000) (hi : PInv p) (hn : n < 60) (h : Good p n S) (hB : smallB p n few (nullP p S n) small = true) (hz : small.length ≤ 1000) :
    m__law_small_right [eB p n S, .tuple (small.map eR), eN few] = some (.bool true) := by
  unfold smallB at hB
  simp only [Bool.and_eq_true, List.all_eq_true, decide_eq_true_eq] at hB
  obtain ⟨b1, b2, b3⟩ := hB
  have b3' : small.flatten.length = n := Nat.eq_of_beq_eq_true b3
  have hs : ∀ gr ∈ small, gr.length = few + 1 ∧ groupP p n (nullP p S n) gr = true ∧ ∀ x ∈ gr, x < n := fun gr hgr => ⟨Nat.eq_of_beq_eq_true (b1 gr hgr).1, (b1 gr hgr).2.1, fun x hx => (b1 gr hgr).2.2 x hx⟩
  have q1 := groups_m (c := few + 1) (j := 4) (i := 0) (mb := mVar 0) (mc := mBin gAdd (mVar 2) (mC (.int 1))) (r := [.val (eB p n S), .val (.tuple (small.map eR)), .val (eN few), .no, .no]) hp hp2 hi hn h hs fun gr _ =>
    ⟨[.val (eB p n S), .val (.tuple (small.map eR)), .val (eN few), .no, .val (eR gr)], rfl, rfl, rfl, addN_m rfl rfl⟩
  have s1 : mEqB true (lM (mLc (mSeq (mVar 1)) (.nm 4) (mOrB (mCmpB pNe (mLen (mVar 4)) (mBin gAdd (mVar 2) (mC (.int 1)))) (mNotB (bM (mCall m__law_group_right (mCons (mVar 0) (mCons (mVar 4) mNil)))))) (mVar 4) [4])) (lM (mLst mNil)) [.val (eB p n S), .val (.tuple (small.map eR)), .val (eN few), .no, .no] = some false :=
    ne_nil_m (rows := []) (lM_ok (lc_ok (ds := small.map eR) rfl q1 (by simp)))
  obtain ⟨r', h1, h2⟩ := forGo_fold2 (fun (ys : List (List Nat)) (f : List Nat) r => f.length + ys.flatten.length ≤ n ∧ ∃ j, r = [.val (eB p n S), .val (.tuple (small.map eR)), .val (eN few), .own (f.map eN), j]) eR (fun f gr => f ++ id gr) (tg := .nm 4) (m := mExt 3 (mLstOf (mVar 4)))
    small (fun gr _ ys f r hr => by
      obtain ⟨hl, j, e⟩ := hr
      subst e
      rw [List.flatten_cons, List.length_append] at hl
      refine ⟨[.val (eB p n S), .val (.tuple (small.map eR)), .val (eN few), .own (f.map eN), .val (eR gr)], _, rfl, ?_, by rw [List.length_append]; show f.length + gr.length + ys.flatten.length ≤ n; omega, .val (eR gr), rfl⟩
      show (if (okSz (f.map eN) && okSz (gr.map eN)) = true then some (Out.nx [.val (eB p n S), .val (.tuple (small.map eR)), .val (eN few), .own (f.map eN ++ gr.map eN), .val (eR gr)]) else none) = _
      have e1 : okSz (f.map eN) = true := decide_eq_true (by rw [List.length_map]; omega)
      have e2 : okSz (gr.map eN) = true := decide_eq_true (by rw [List.length_map]; omega)
      rw [e1, e2, if_pos (by rfl), ← List.map_append]
      rfl) [] [.val (eB p n S), .val (.tuple (small.map eR)), .val (eN few), .own [], .no] ⟨by rw [b3']; simp, .no, rfl⟩
  obtain ⟨_, j, e⟩ := h2
  have ef : small.foldl (fun f gr => f ++ id gr) [] = small.flatten := by rw [foldl_app, List.nil_append, List.map_id]
  rw [ef] at e
  subst e
  refine mFn_rt rfl (seq_nx (if_f s1 rfl) (seq_nx (r1 := [.val (eB p n S), .val (.tuple (small.map eR)), .val (eN few), .own [], .no]) rfl (seq_nx (for_ok (ds := small.map eR) rfl h1) (ret_ok ?_))))
  have t1 : mEqB false (lM (mSortSet (mOwn 3))) (lM (mRg1 (mIx (mVar 0) (mC (.int 1))))) [.val (eB p n S), .val (.tuple (small.map eR)), .val (eN few), .own (small.flatten.map eN), j] = some true := by
    have a1 : lM (mSortSet (mOwn 3)) [.val (eB p n S), .val (.tuple (small.map eR)), .val (eN few), .own (small.flatten.map eN), j] = some (.list ((sortN small.flatten).map eN)) := lM_ok (sort_m (xs := small.flatten) rfl (by omega))
    have a2 : lM (mRg1 (mIx (mVar 0) (mC (.int 1)))) [.val (eB p n S), .val (.tuple (small.map eR)), .val (eN few), .own (small.flatten.map eN), j] = some (.list ((List.range n).map eN)) := by
      refine lM_ok ?_
      rw [← rg_eN]
      exact rg1_ok rfl (okRg_eN (by omega))
    have := eqB_ok (neg := false) a1 a2 (sh_N _) (sh_N _) (b := true) (by
      show PyData.eqvAll _ _ = true
      rw [eqv_eN]
      exact decide_eq_true b2)
    exact this
  have t2 : mCmpB pEq (mLen (mOwn 3)) (mIx (mVar 0) (mC (.int 1))) [.val (eB p n S), .val (.tuple (small.map eR)), .val (eN few), .own (small.flatten.map eN), j] = some true := by
    have := eqN_m (r := [.val (eB p n S), .val (.tuple (small.map eR)), .val (eN few), .own (small.flatten.map eN), j]) (ma := mLen (mOwn 3)) (mb := mIx (mVar 0) (mC (.int 1))) (a := small.flatten.length) (b := n) (by rw [len_ok (d := .list (small.flatten.map eN)) (ds := small.flatten.map eN) rfl rfl, eN_len]) rfl
    rw [b3', beq_self_eq_true] at this
    exact this
  exact andE_t (bE_ok t1) (bE_ok t2)
/-! the book of nested groups -/
theorem drop_ok {m : ME} {r : List Sl} (h : (m r).isSome = true) : mDrop m r = some (.nx r) := by
  obtain ⟨z, hz⟩ := Option.isSome_iff_exists.mp h
  unfold mDrop
  rw [hz]; rfl
theorem call_some {f : List PyData → Option PyData} {ml : ML} {r : List Sl} {ds : List PyData} (h : ml r = some ds) (hf : (f ds).isSome = true) : (mCall f ml r).isSome = true := by
  unfold mCall
  rw [h]; exact hf
theorem take_m {ma mb : ME} {r : List Sl} {xs : List Nat} {k : Nat} (ha : ma r = some (eR xs)) (hb : mb r = some (eN k)) : mTake .tuple asTup ma mb r = some (eR (xs.take k)) := by
  unfold mTake
  rw [ha]
  show (iM mb r).bind _ = _
  rw [iM_of hb]
  show (if (0 : Int) ≤ Int.ofNat k then some (PyData.tuple ((xs.map eN).take (Int.ofNat k).toNat)) else none) = _
  rw [if_pos (show (0 : Int) ≤ Int.ofNat k from Int.natCast_nonneg k)]
  show some (PyData.tuple ((xs.map eN).take k)) = _
  rw [← List.map_take]; rfl
theorem takeL_m {ma mb : ME} {r : List Sl} {xs : List Nat} {k : Nat} (ha : ma r = some (.list (xs.map eN))) (hb : mb r = some (eN k)) : mTakeL ma mb r = some ((xs.take k).map eN) := by
  unfold mTakeL
  rw [ha]
  show (iM mb r).bind _ = _
  rw [iM_of hb]
  show (if (0 : Int) ≤ Int.ofNat k then some ((xs.map eN).take (Int.ofNat k).toNat) else none) = _
  rw [if_pos (show (0 : Int) ≤ Int.ofNat k from Int.natCast_nonneg k)]
  show some ((xs.map eN).take k) = _
  rw [← List.map_take]
structure NumsOk (p : Nat) (nums exps : List Nat) : Prop where
  hp : 1 < p
  hp2 : p < 1000
  hi : PInv p
  ha : ∀ a ∈ nums, a < 1000000
  he : ∀ e ∈ exps, e < 1000
  h1 : nums.length ≤ 12
  h2 : exps.length ≤ 1000
theorem nbook_m {p few wide inner many told : Nat} {nums used : List Nat} (ok : NumsOk p nums (used.take told)) (c1 : (m_want_wide_classes [eN p, eN few, eN wide]).isSome = true) (i1 : (m_want_inner [eN wide, eN inner]).isSome = true) (c2 : (m_want_many [eN p, eN wide, eN many]).isSome = true)
    (i2 : m_nested_exponents [eN few, eN wide, eN inner, eN many] = some (eR used)) (t1 : (m_want_told [eN used.length, eN told]).isSome = true) (c3 : m_numbers_by [eN p, eN wide, eN many] = some (eR nums)) :
    m_nested_book [eN p, eN few, eN wide, eN inner, eN many, eN told] = some (eB p nums.length (bkS p nums (used.take told))) := by
  refine mFn_rt rfl (seq_nx (drop_ok (call_some (cons_ok (d := eN p) rfl (cons_ok (d := eN few) rfl (cons_ok (d := eN wide) rfl nil_ok))) c1)) (seq_nx (drop_ok (call_some (cons_ok (d := eN wide) rfl (cons_ok (d := eN inner) rfl nil_ok)) i1))
    (seq_nx (drop_ok (call_some (cons_ok (d := eN p) rfl (cons_ok (d := eN wide) rfl (cons_ok (d := eN many) rfl nil_ok))) c2)) (seq_nx (set_ok (call_ok (cons_ok (d := eN few) rfl (cons_ok (d := eN wide) rfl (cons_ok (d := eN inner) rfl (cons_ok (d := eN many) rfl nil_ok)))) i2))
    (seq_nx (drop_ok (call_some (cons_ok (d := eN used.length) ?_ (cons_ok (d := eN told) rfl nil_ok)) t1)) (ret_ok (call_ok (cons_ok (d := eN p) rfl (cons_ok (call_ok (cons_ok (d := eN p) rfl (cons_ok (d := eN wide) rfl (cons_ok (d := eN many) rfl nil_ok))) c3) (cons_ok (take_m (xs := used) (k := told) rfl rfl) nil_ok))) (book_m ok.hp ok.hp2 ok.hi ok.ha ok.he (by have := ok.h1; omega) ok.h2))))))))
  rw [len_ok (d := eR used) (ds := used.map eN) rfl rfl, eN_len]
theorem cbook_m {p one other many told : Nat} {nums used : List Nat} (ok : NumsOk p nums (used.take told)) (c1 : (m_want_prime [eN p]).isSome = true) (c2 : (m_want_crossed [eN one, eN other]).isSome = true) (c4 : (m_want_many [eN p, eN (one * other), eN many]).isSome = true)
    (hd : (p - 1) % (one * other) = 0) (h0 : 0 < one * other) (ho : one < 1000000) (i2 : m_crossed_exponents [eN one, eN other, eN many] = some (eR used)) (t1 : (m_want_told [eN used.length, eN told]).isSome = true) (c3 : m_numbers_by [eN p, eN (one * other), eN many] = some (eR nums)) :
    m_crossed_book [eN p, eN one, eN other, eN many, eN told] = some (eB p nums.length (bkS p nums (used.take told))) := by
  have hmul : ∀ r : List Sl, mVar 1 r = some (eN one) → mVar 2 r = some (eN other) → mBin gMul (mVar 1) (mVar 2) r = some (eN (one * other)) := fun r a b => mulN_m a b ho
  refine mFn_rt rfl (seq_nx (drop_ok (call_some (cons_ok (d := eN p) rfl nil_ok) c1)) (seq_nx (drop_ok (call_some (cons_ok (d := eN one) rfl (cons_ok (d := eN other) rfl nil_ok)) c2))
    (seq_nx (drop_ok (call_some (ds := [.bool true, .str "other"]) (cons_ok (bE_ok ?_) (cons_ok (d := .str "other") rfl nil_ok)) rfl)) (seq_nx (drop_ok (call_some (cons_ok (d := eN p) rfl (cons_ok (hmul _ rfl rfl) (cons_ok (d := eN many) rfl nil_ok))) c4))
    (seq_nx (set_ok (call_ok (cons_ok (d := eN one) rfl (cons_ok (d := eN other) rfl (cons_ok (d := eN many) rfl nil_ok))) i2))
    (seq_nx (drop_ok (call_some (cons_ok (d := eN used.length) ?_ (cons_ok (d := eN told) rfl nil_ok)) t1)) (ret_ok (call_ok (cons_ok (d := eN p) rfl (cons_ok (call_ok (cons_ok (d := eN p) rfl (cons_ok (hmul _ rfl rfl) (cons_ok (d := eN many) rfl nil_ok))) c3) (cons_ok (take_m (xs := used) (k := told) rfl rfl) nil_ok))) (book_m ok.hp ok.hp2 ok.hi ok.ha ok.he (by have := ok.h1; omega) ok.h2)))))))))
  · have e : (Int.ofNat p - 1) % Int.ofNat (one * other) = 0 := by
      have e1 : (Int.ofNat p - 1) = Int.ofNat (p - 1) := by
        show ((p : Int) - 1) = ((p - 1 : Nat) : Int)
        have := ok.hp
        omega
      rw [e1]
      show Int.ofNat ((p - 1) % (one * other)) = 0
      rw [hd]; rfl
    have q := bin_ok (g := gMod) (r := [.val (eN p), .val (eN one), .val (eN other), .val (eN many), .val (eN told), .no]) (ma := mBin Ly.gSub (mVar 0) (mC (.int 1))) (mb := mBin gMul (mVar 1) (mVar 2)) (i := Int.ofNat p - 1) (j := Int.ofNat (one * other)) (iM_of (bin_ok (i := Int.ofNat p) (j := 1) rfl rfl rfl)) (iM_of (hmul _ rfl rfl)) (mod_ok (show (0 : Int) < Int.ofNat (one * other) from Int.ofNat_lt.mpr h0))
    rw [e] at q
    have := cmp_ok (p := pEq) (i := 0) (j := 0) (mb := mC (.int 0)) (iM_of q) rfl
    exact this
  · rw [len_ok (d := eR used) (ds := used.map eN) rfl rfl, eN_len]
end Pl
set_option Elab.async false
set_option linter.all false
set_option maxRecDepth 100000
set_option maxHeartbeats 4000000
namespace Pl
open PySem Ly Mf L2
theorem wP_nx {m : MS} {k : WS} {g : Addr} {r r1 : List Sl} {Φ : Out → Prop} (h : m r = some (.nx r1)) (hk : k g r1 Φ) : wSeq (wP m) k g r Φ := ⟨.nx r1, h, hk⟩
theorem rg2_eN (a b : Nat) : rgD (Int.ofNat a) (Int.ofNat b) = ((List.range (b - a)).map (a + ·)).map eN := by
  unfold rgD
  have e : (Int.ofNat b - Int.ofNat a).toNat = b - a := by show ((b : Int) - (a : Int)).toNat = b - a; omega
  rw [e, List.map_map]
  refine List.map_congr_left fun k _ => ?_
  show PyData.int ((a : Int) + (k : Int)) = PyData.int (Int.ofNat (a + k))
  congr 1
def greatP (wide many : Nat) : List (List Nat) := (List.range many).map fun j => (List.range ((j + 1) * wide - j * wide)).map (j * wide + ·)
structure NC (p few wide many : Nat) (nums : List Nat) (small : List (List Nat)) : Prop where
  c1 : (m_want_wide_classes [eN p, eN few, eN wide]).isSome = true
  c2 : (m_want_many [eN p, eN wide, eN many]).isSome = true
  c3 : m_numbers_by [eN p, eN wide, eN many] = some (eR nums)
  c4 : m__law_class_numbers [eN p, eN wide, eN many] = some (.list (nums.map eN))
  c5 : m_nested_groups [eN p, eN few, eN wide, eN many] = some (.tuple [.tuple (small.map eR), .tuple ((greatP wide many).map eR)])
  hl : nums.length = wide * many
  hw : wide ≤ 12
  hm : many ≤ 12
  h0 : 0 < many
  hs : small.length ≤ 1000
def toldB (p : Nat) (W : List (List Nat)) (wide inner n : Nat) (gr : List Nat) : Bool := Nat.beq gr.length wide && ((gr.all fun x => decide (x < n)) && (lotsL wide inner).all fun lot => Nat.beq (rankP p W (lot.map (nth gr))) (rankP p W gr))
def leafB (p few wide many inner : Nat) (nums : List Nat) (small : List (List Nat)) (exps : List Nat) : Bool :=
  decide (nullP p (bkS p nums exps) nums.length = redA p (powRows p nums exps) nums.length) && (((greatP wide many).all fun gr => toldB p (nullP p (bkS p nums exps) nums.length) wide inner nums.length gr) && (decide (0 < (lotsL wide inner).length) && smallB p nums.length few (nullP p (bkS p nums exps) nums.length) small))
abbrev nt15 : WS := wP v15__law_nested_right
abbrev nt14 : WS := wSeq (wP v14__law_nested_right) nt15
abbrev nt13 : WS := wSeq v13__law_nested_right nt14
abbrev nt12 : WS := wSeq v12__law_nested_right nt13
abbrev nt11 : WS := wSeq (wP v11__law_nested_right) nt12
abbrev nt10 : WS := wSeq (wP v10__law_nested_right) nt11
abbrev nt9 : WS := wSeq (wP v9__law_nested_right) nt10
abbrev nt8 : WS := wSeq (wP v8__law_nested_right) nt9
abbrev nt7 : WS := wSeq (wP v7__law_nested_right) nt8
section
variable {p few wide many inner told : Nat} {nums used : List Nat} {small : List (List Nat)} {lst least : Sl} {g : Addr}
theorem told_m {n : Nat} {S : List (List Nat)} {lot : List Nat} (hp : 1 < p) (hp2 : p < 1000) (hi : PInv p) (hn : n ≤ 1000) (h : Good p n S) (hl : ∀ x ∈ lot, x < n) (hz : lot.length ≤ 1000) : m__law_told_on [eB p n S, eR lot] = some (eN (rankP p (nullP p S n) lot)) :=
  mFn_rt rfl (ret_ok (call_ok (cons_ok (d := eN p) rfl (cons_ok (call_ok (cons_ok (d := eB p n S) rfl nil_ok) (words_m hp hp2 hi hn h)) (cons_ok (d := eR lot) rfl nil_ok))) (rank_m hp hp2 hi (words_good hp hi hn) hl hz)))
theorem nested_tail (C : NC p few wide many nums small) (ok : NumsOk p nums (used.take told)) (i1 : (m_want_inner [eN wide, eN inner]).isSome = true) (i2 : m_nested_exponents [eN few, eN wide, eN inner, eN many] = some (eR used)) (t1 : (m_want_told [eN used.length, eN told]).isSome = true) (hin : inner ≤ 12)
    (hB : leafB p few wide many inner nums small (used.take told) = true) (hfar : m__law_far_enough [eB p nums.length (bkS p nums (used.take told)), .list ((used.take told).map eN)] = some (.bool true)) :
    nt7 g [.pt g, lst, .val (eN p), .val (eN few), .val (eN wide), .val (eN many), .val (eN inner), .val (.list (used.map eN)), least, .val (eN told), .no, .no, .no, .no, .no, .no, .no, .no, .no, .no] (fun out => out = .rt (.bool true)) := by
  have hn12 : nums.length ≤ 12 := ok.h1
  have hb := nbook_m ok C.c1 i1 C.c2 i2 t1 C.c3
  have gS : Good p nums.length (bkS p nums (used.take told)) := bk_good ok.hp ok.hi (by omega)
  have gP : Good p nums.length (powRows p nums (used.take told)) := pow_good ok.hp ok.h2
  have hw := words_m ok.hp ok.hp2 ok.hi (show nums.length ≤ 1000 by omega) gS
  have htold : ∀ lot : List Nat, (∀ x ∈ lot, x < nums.length) → lot.length ≤ 1000 → _ := fun lot hl hz => told_m ok.hp ok.hp2 ok.hi (show nums.length ≤ 1000 by omega) gS hl hz
  have hred := lawred_m ok.hp ok.hp2 ok.hi (show nums.length ≤ 1000 by omega) gP
  unfold leafB at hB
  simp only [Bool.and_eq_true, decide_eq_true_eq, List.all_eq_true] at hB
  obtain ⟨b1, b2, b3, b4⟩ := hB
  have hsm := small_m ok.hp ok.hp2 ok.hi (show nums.length < 60 by omega) gS b4 C.hs
  have hwo := worths_m (p := p) (nums := nums) (exps := used.take told) (dn := .list (nums.map eN)) (de := .list ((used.take told).map eN)) rfl rfl ok.hp (by have := ok.hp2; omega) ok.he (by omega) ok.h2
  rw [b1] at hw
  generalize hSS : bkS p nums (used.take told) = S at hb gS hw htold b2 b4 hsm hfar
  -- the book, the numbers
  refine wP_nx (r1 := [.pt g, lst, .val (eN p), .val (eN few), .val (eN wide), .val (eN many), .val (eN inner), .val (.list (used.map eN)), least, .val (eN told), .val (eB p nums.length S), .val (.list (nums.map eN)), .no, .no, .no, .no, .no, .no, .no, .no]) ?_ ?_
  · have q1 : mCall m_nested_book (mCons (mVar 2) (mCons (mVar 3) (mCons (mVar 4) (mCons (mVar 6) (mCons (mVar 5) (mCons (mVar 9) mNil)))))) [.pt g, lst, .val (eN p), .val (eN few), .val (eN wide), .val (eN many), .val (eN inner), .val (.list (used.map eN)), least, .val (eN told), .no, .no, .no, .no, .no, .no, .no, .no, .no, .no] = some (eB p nums.length S) :=
      call_ok (cons_ok (d := eN p) rfl (cons_ok (d := eN few) rfl (cons_ok (d := eN wide) rfl (cons_ok (d := eN inner) rfl (cons_ok (d := eN many) rfl (cons_ok (d := eN told) rfl nil_ok)))))) hb
    have q2 : mCall m__law_class_numbers (mCons (mVar 2) (mCons (mVar 4) (mCons (mVar 5) mNil))) [.pt g, lst, .val (eN p), .val (eN few), .val (eN wide), .val (eN many), .val (eN inner), .val (.list (used.map eN)), least, .val (eN told), .no, .no, .no, .no, .no, .no, .no, .no, .no, .no] = some (.list (nums.map eN)) :=
      call_ok (cons_ok (d := eN p) rfl (cons_ok (d := eN wide) rfl (cons_ok (d := eN many) rfl nil_ok))) C.c4
    unfold v7__law_nested_right mPar sV
    rw [q1, q2]; rfl
  refine wP_nx (r1 := [.pt g, lst, .val (eN p), .val (eN few), .val (eN wide), .val (eN many), .val (eN inner), .val (.list (used.map eN)), least, .val (eN told), .val (eB p nums.length S), .val (.list (nums.map eN)), .val (.list ((redA p (powRows p nums (used.take told)) nums.length).map eR)), .no, .no, .no, .no, .no, .no, .no]) ?_ ?_
  · exact set_ok (call_ok (cons_ok (d := eN p) rfl (cons_ok (call_ok (cons_ok (d := eN p) rfl (cons_ok (d := .list (nums.map eN)) rfl (cons_ok (lM_ok (takeL_m (xs := used) (k := told) rfl rfl)) nil_ok))) hwo) nil_ok)) hred)
  refine wP_nx (r1 := [.pt g, lst, .val (eN p), .val (eN few), .val (eN wide), .val (eN many), .val (eN inner), .val (.list (used.map eN)), least, .val (eN told), .val (eB p nums.length S), .val (.list (nums.map eN)), .val (.list ((redA p (powRows p nums (used.take told)) nums.length).map eR)), .no, .no, .no, .no, .no, .no, .no]) ?_ ?_
  · refine if_f (orB_f ?_ ?_) rfl
    · have := eqB_ok (neg := true) (ma := mCall m__law_words (mCons (mVar 10) mNil)) (mb := mVar 12) (r := [.pt g, lst, .val (eN p), .val (eN few), .val (eN wide), .val (eN many), .val (eN inner), .val (.list (used.map eN)), least, .val (eN told), .val (eB p nums.length S), .val (.list (nums.map eN)), .val (.list ((redA p (powRows p nums (used.take told)) nums.length).map eR)), .no, .no, .no, .no, .no, .no, .no])
        (call_ok (cons_ok (d := eB p nums.length S) rfl nil_ok) (by rw [← hSS] at hw ⊢; exact hw)) rfl (sh_Rs _) (sh_Rs _) (b := true) (by
          show PyData.eqvAll _ _ = true
          rw [eqv_eR]
          exact decide_eq_true rfl)
      exact this
    · have := neN_m (r := [.pt g, lst, .val (eN p), .val (eN few), .val (eN wide), .val (eN many), .val (eN inner), .val (.list (used.map eN)), least, .val (eN told), .val (eB p nums.length S), .val (.list (nums.map eN)), .val (.list ((redA p (powRows p nums (used.take told)) nums.length).map eR)), .no, .no, .no, .no, .no, .no, .no]) (ma := mIx (mVar 10) (mC (.int 1))) (mb := mBin gMul (mVar 4) (mVar 5)) (a := nums.length) (b := wide * many) rfl (mulN_m rfl rfl (by have := C.hw; omega))
      rw [C.hl, beq_self_eq_true] at this
      rw [C.hl]
      exact this
  generalize redA p (powRows p nums (used.take told)) nums.length = R
  refine wP_nx (r1 := [.pt g, lst, .val (eN p), .val (eN few), .val (eN wide), .val (eN many), .val (eN inner), .val (.list (used.map eN)), least, .val (eN told), .val (eB p nums.length S), .val (.list (nums.map eN)), .val (.list (R.map eR)), .val (.tuple (small.map eR)), .val (.tuple ((greatP wide many).map eR)), .no, .no, .no, .no, .no]) ?_ ?_
  · unfold v10__law_nested_right mUnp
    rw [call_ok (r := [.pt g, lst, .val (eN p), .val (eN few), .val (eN wide), .val (eN many), .val (eN inner), .val (.list (used.map eN)), least, .val (eN told), .val (eB p nums.length S), .val (.list (nums.map eN)), .val (.list (R.map eR)), .no, .no, .no, .no, .no, .no, .no]) (cons_ok (me := mVar 2) (d := eN p) rfl (cons_ok (me := mVar 3) (d := eN few) rfl (cons_ok (me := mVar 4) (d := eN wide) rfl (cons_ok (me := mVar 5) (d := eN many) rfl nil_ok)))) C.c5]
    rfl
  refine wP_nx (r1 := [.pt g, lst, .val (eN p), .val (eN few), .val (eN wide), .val (eN many), .val (eN inner), .val (.list (used.map eN)), least, .val (eN told), .val (eB p nums.length S), .val (.list (nums.map eN)), .val (.list (R.map eR)), .val (.tuple (small.map eR)), .val (.tuple ((greatP wide many).map eR)), .no, .no, .no, .no, .no]) ?_ ?_
  · refine if_f ?_ rfl
    have q : ∀ T : Sl, lcGo (.nm 18) mYes (fun r => (mRg2 (mBin gMul (mVar 18) (mVar 4)) (mBin gMul (mBin gAdd (mVar 18) (mC (.int 1))) (mVar 4)) r).map PyData.tuple) [.pt g, lst, .val (eN p), .val (eN few), .val (eN wide), .val (eN many), .val (eN inner), .val (.list (used.map eN)), least, .val (eN told), .val (eB p nums.length S), .val (.list (nums.map eN)), .val (.list (R.map eR)), .val (.tuple (small.map eR)), T, .no, .no, .no, .no, .no] ((List.range many).map eN) = some ((greatP wide many).map eR) := by
      intro T
      unfold greatP
      rw [List.map_map]
      refine lcGo_all eN (fun j => eR ((List.range ((j + 1) * wide - j * wide)).map (j * wide + ·))) (List.range many) fun j hj => ⟨[.pt g, lst, .val (eN p), .val (eN few), .val (eN wide), .val (eN many), .val (eN inner), .val (.list (used.map eN)), least, .val (eN told), .val (eB p nums.length S), .val (.list (nums.map eN)), .val (.list (R.map eR)), .val (.tuple (small.map eR)), T, .no, .no, .no, .val (eN j), .no], rfl, ?_⟩
      have hjm := List.mem_range.mp hj
      have hm2 := C.hm
      have hw2 := C.hw
      have k1 : (j + 1) * wide ≤ 12 * 12 := Nat.mul_le_mul (by omega) (by omega)
      have k2 : j * wide ≤ 12 * 12 := Nat.mul_le_mul (by omega) (by omega)
      rw [rg2_ok (i := Int.ofNat (j * wide)) (j := Int.ofNat ((j + 1) * wide)) (iM_of (mulN_m rfl rfl (by omega))) (iM_of (mulN_m (addN_m rfl rfl) rfl (by omega))) (decide_eq_true ⟨Int.le_trans (by decide) (Int.natCast_nonneg _), Int.ofNat_le.mpr (show j * wide ≤ 100000 by omega), Int.le_trans (by decide) (Int.natCast_nonneg _), Int.ofNat_le.mpr (show (j + 1) * wide ≤ 100000 by omega)⟩), rg2_eN]
      rfl
    have hlen : ((greatP wide many).map eR).length ≤ 100000 := by
      unfold greatP
      rw [List.length_map, List.length_map, List.length_range]
      have := C.hm
      omega
    have := eqB_ok (neg := true) (ma := mVar 14) (mb := mTupOf (lM (mLc (mRg1 (mVar 5)) (.nm 18) mYes (fun r => (mRg2 (mBin gMul (mVar 18) (mVar 4)) (mBin gMul (mBin gAdd (mVar 18) (mC (.int 1))) (mVar 4)) r).map PyData.tuple) [18]))) (r := [.pt g, lst, .val (eN p), .val (eN few), .val (eN wide), .val (eN many), .val (eN inner), .val (.list (used.map eN)), least, .val (eN told), .val (eB p nums.length S), .val (.list (nums.map eN)), .val (.list (R.map eR)), .val (.tuple (small.map eR)), .val (.tuple ((greatP wide many).map eR)), .no, .no, .no, .no, .no])
      rfl (tupOf_l (lc_ok (ds := (List.range many).map eN) (by rw [← rg_eN]; exact rg1_ok rfl (okRg_eN (by have := C.hm; omega))) (q _) hlen)) (sh_Ts _) (sh_Ts _) (b := true) (by
        show PyData.eqvAll _ _ = true
        rw [eqv_eR]
        exact decide_eq_true rfl)
    exact this
  have hgl : (greatP wide many).length = many := by unfold greatP; rw [List.length_map, List.length_range]
  refine ⟨rfl, (greatP wide many).map eR, rfl, by rw [List.length_map, hgl]; exact C.h0, by rw [List.length_map, hgl]; have := C.hm; omega, fun d hd => ?_⟩
  obtain ⟨gr, hgr, ed⟩ := List.mem_map.mp hd
  subst ed
  have bt := b2 gr hgr
  unfold toldB at bt
  simp only [Bool.and_eq_true, decide_eq_true_eq, List.all_eq_true] at bt
  obtain ⟨g1, g2, g3⟩ := bt
  have g1' : gr.length = wide := Nat.eq_of_beq_eq_true g1
  have hlots := lawlots_m (n := wide) (size := inner) C.hw (by omega)
  have hll : (lotsL wide inner).length ≤ 65536 := by
    have h1 := (fold_okLL (size := inner) (List.range wide) [[]] (fun k hk => List.mem_range.mp hk) (start_okLL C.hw)).1
    have h2 := List.length_filter_le (fun l : List Nat => l.length == inner) ((List.range wide).foldl (stepLL inner) [[]])
    unfold lotsL
    simp only [List.length_nil, Nat.pow_zero, Nat.mul_one] at h1
    omega
  refine ⟨rfl, (lotsL wide inner).map eR, ?_, by rw [List.length_map]; exact b3, by rw [List.length_map]; omega, fun d hd => ?_⟩
  · have := call_ok (f := m__law_lots) (r := [.pt g, lst, .val (eN p), .val (eN few), .val (eN wide), .val (eN many), .val (eN inner), .val (.list (used.map eN)), least, .val (eN told), .val (eB p nums.length S), .val (.list (nums.map eN)), .val (.list (R.map eR)), .val (.tuple (small.map eR)), .val (.tuple ((greatP wide many).map eR)), .val (eR gr), .no, .no, .no, .no]) (cons_ok (me := mVar 4) (d := eN wide) rfl (cons_ok (me := mVar 6) (d := eN inner) rfl nil_ok)) hlots
    show (mCall m__law_lots (mCons (mVar 4) (mCons (mVar 6) mNil)) [.pt g, lst, .val (eN p), .val (eN few), .val (eN wide), .val (eN many), .val (eN inner), .val (.list (used.map eN)), least, .val (eN told), .val (eB p nums.length S), .val (.list (nums.map eN)), .val (.list (R.map eR)), .val (.tuple (small.map eR)), .val (.tuple ((greatP wide many).map eR)), .val (eR gr), .no, .no, .no, .no]).bind asSeq = _
    rw [this]; rfl
  obtain ⟨lot, hlot, ed⟩ := List.mem_map.mp hd
  subst ed
  have hx := lotsL_lt C.hw lot hlot
  have hllen : lot.length ≤ 12 := by
    have h2 := (fold_okLL (size := inner) (List.range wide) [[]] (fun k hk => List.mem_range.mp hk) (start_okLL C.hw)).2.1 lot (List.mem_filter.mp hlot).1
    have := C.hw
    simp only [List.length_nil] at h2
    omega
  refine ⟨lot.map eN, rfl, (lot.map (nth gr)).map eN, ?_, by rw [List.length_map, List.length_map]; omega, ?_⟩
  · exact cutrow_m (n := 0) fun x hxl => ⟨[.pt g, lst, .val (eN p), .val (eN few), .val (eN wide), .val (eN many), .val (eN inner), .val (.list (used.map eN)), least, .val (eN told), .val (eB p nums.length S), .val (.list (nums.map eN)), .val (.list (R.map eR)), .val (.tuple (small.map eR)), .val (.tuple ((greatP wide many).map eR)), .val (eR gr), .no, .no, .no, .val (eN x)], rfl, ix_ok (d := eR gr) rfl rfl (j := Int.ofNat x) rfl (at_eN (by rw [g1']; exact hx x hxl))⟩
  refine wP_nx (r1 := [.pt g, lst, .val (eN p), .val (eN few), .val (eN wide), .val (eN many), .val (eN inner), .val (.list (used.map eN)), least, .val (eN told), .val (eB p nums.length S), .val (.list (nums.map eN)), .val (.list (R.map eR)), .val (.tuple (small.map eR)), .val (.tuple ((greatP wide many).map eR)), .val (eR gr), .val (eR (lot.map (nth gr))), .no, .no, .no]) ?_ ?_
  · refine if_f ?_ rfl
    have e1 := htold (lot.map (nth gr)) (fun x hxm => by
      obtain ⟨y, hy, ey⟩ := List.mem_map.mp hxm
      rw [← ey]
      exact g2 _ (nth_mem (by rw [g1']; exact hx y hy))) (by rw [List.length_map]; omega)
    have e2 := htold gr g2 (by rw [g1']; have := C.hw; omega)
    have := neN_m (r := [.pt g, lst, .val (eN p), .val (eN few), .val (eN wide), .val (eN many), .val (eN inner), .val (.list (used.map eN)), least, .val (eN told), .val (eB p nums.length S), .val (.list (nums.map eN)), .val (.list (R.map eR)), .val (.tuple (small.map eR)), .val (.tuple ((greatP wide many).map eR)), .val (eR gr), .val (eR (lot.map (nth gr))), .no, .no, .no]) (ma := mCall m__law_told_on (mCons (mVar 10) (mCons (mVar 16) mNil))) (mb := mCall m__law_told_on (mCons (mVar 10) (mCons (mVar 15) mNil)))
      (call_ok (cons_ok (d := eB p nums.length S) rfl (cons_ok (d := eR (lot.map (nth gr))) rfl nil_ok)) e1) (call_ok (cons_ok (d := eB p nums.length S) rfl (cons_ok (d := eR gr) rfl nil_ok)) e2)
    rw [Nat.eq_of_beq_eq_true (g3 lot hlot), beq_self_eq_true] at this
    exact this
  · refine ⟨.rt (.bool true), ret_ok (andE_t (call_ok (cons_ok (d := eB p nums.length S) rfl (cons_ok (d := .tuple (small.map eR)) rfl (cons_ok (d := eN few) rfl nil_ok))) hsm) (call_ok (cons_ok (d := eB p nums.length S) rfl (cons_ok (lM_ok (takeL_m (xs := used) (k := told) rfl rfl)) nil_ok)) hfar)), rfl⟩
end
end Pl
set_option Elab.async false
set_option linter.all false
set_option maxRecDepth 100000
set_option maxHeartbeats 4000000
namespace Pl
open PySem Ly Mf L2
structure CC (p one other many : Nat) (nums : List Nat) (first second : List (List Nat)) : Prop where
  c1 : (m_want_prime [eN p]).isSome = true
  c2 : (m_want_crossed [eN one, eN other]).isSome = true
  c4 : (m_want_many [eN p, eN (one * other), eN many]).isSome = true
  hd : (p - 1) % (one * other) = 0
  h0 : 0 < one * other
  ho : one < 1000000
  c3 : m_numbers_by [eN p, eN (one * other), eN many] = some (eR nums)
  c6 : m__law_class_numbers [eN p, eN (one * other), eN many] = some (.list (nums.map eN))
  c5 : m_crossed_groups [eN one, eN other, eN many] = some (.tuple [.tuple (first.map eR), .tuple (second.map eR)])
  hl : nums.length = one * other * many
  hf : first.length ≤ 1000
  hs : second.length ≤ 1000
def partB (p n : Nat) (W : List (List Nat)) (x : List (List Nat) × Nat) : Bool := (x.1.all fun gr => Nat.beq gr.length x.2 && (groupP p n W gr && gr.all fun y => decide (y < n))) && (Nat.beq (x.1.length * x.2) n && decide (x.1.length ≤ 1000))
def pairB (first second : List (List Nat)) : Bool := first.all fun a => second.all fun b => decide ((a.filter fun x => b.contains x).length ≤ 1) && decide (a.length ≤ 1000)
def leafC (p one other : Nat) (nums : List Nat) (first second : List (List Nat)) (exps : List Nat) : Bool :=
  decide (nullP p (bkS p nums exps) nums.length = redA p (powRows p nums exps) nums.length) && (([(first, one), (second, other)].all fun x => partB p nums.length (nullP p (bkS p nums exps) nums.length) x) && pairB first second)
theorem in_m {x : Nat} {ls : List Nat} {mx ml : ME} {r : List Sl} (hx : mx r = some (eN x)) (hl : (ml r).bind asSeq = some (ls.map eN)) : mInB false mx ml r = some (ls.contains x) := by
  have h := notin_m hx hl
  unfold mInB at h ⊢
  rw [iM_of hx] at h ⊢
  have h' : ((((ml r).bind asSeq).bind allInt).map fun ns => !(ns.any fun n => n == Int.ofNat x)) = some (!(ls.contains x)) := h
  show ((((ml r).bind asSeq).bind allInt).map fun ns => ns.any fun n => n == Int.ofNat x) = some (ls.contains x)
  rw [hl] at h' ⊢
  have e : ((some (ls.map eN)).bind allInt) = some (ls.map Int.ofNat) := allInt_eN ls
  rw [e] at h' ⊢
  have h2 := Option.some.inj h'
  refine congrArg some ?_
  have := congrArg (fun b => !b) h2
  simpa using this
abbrev ct12 : WS := wP v12__law_crossed_right
abbrev ct11 : WS := wSeq (wP v11__law_crossed_right) ct12
abbrev ct10 : WS := wSeq (wP v10__law_crossed_right) ct11
abbrev ct9 : WS := wSeq (wP v9__law_crossed_right) ct10
abbrev ct8 : WS := wSeq (wP v8__law_crossed_right) ct9
abbrev ct7 : WS := wSeq (wP v7__law_crossed_right) ct8
abbrev ct6 : WS := wSeq (wP v6__law_crossed_right) ct7
abbrev cB10 : MS := mSeq2 (mIfS (mEqB true (lM (mLc (mSeq (mVar 15)) (.nm 17) (mOrB (mCmpB pNe (mLen (mVar 17)) (mVar 16)) (mNotB (bM (mCall m__law_group_right (mCons (mVar 10) (mCons (mVar 17) mNil)))))) (mVar 17) [17])) (lM (mLst mNil))) (mRet (mC (.bool false))) mSkip) (mIfS (mCmpB pNe (mBin gMul (mLen (mVar 15)) (mVar 16)) (mVar 6)) (mRet (mC (.bool false))) mSkip)
theorem part_m {p n each : Nat} {S groups : List (List Nat)} {s0 s1 s2 s3 s4 s5 s7 s8 s9 s11 s12 s13 s14 s18 s19 s20 : Sl} (hp : 1 < p) (hp2 : p < 1000) (hi : PInv p) (hn : n < 60) (h : Good p n S) (hB : partB p n (nullP p S n) (groups, each) = true) (s17 : Sl) (h17 : s17 = .no) :
    cB10 [s0, s1, s2, s3, s4, s5, .val (eN n), s7, s8, s9, .val (eB p n S), s11, s12, s13, s14, .val (.tuple (groups.map eR)), .val (eN each), s17, s18, s19, s20] = some (.nx [s0, s1, s2, s3, s4, s5, .val (eN n), s7, s8, s9, .val (eB p n S), s11, s12, s13, s14, .val (.tuple (groups.map eR)), .val (eN each), s17, s18, s19, s20]) := by
  subst h17
  unfold partB at hB
  simp only [Bool.and_eq_true, List.all_eq_true, decide_eq_true_eq] at hB
  obtain ⟨b1, b2, b3⟩ := hB
  have b2' : groups.length * each = n := Nat.eq_of_beq_eq_true b2
  have q1 := groups_m (c := each) (j := 17) (i := 0) (mb := mVar 10) (mc := mVar 16) (r := [s0, s1, s2, s3, s4, s5, .val (eN n), s7, s8, s9, .val (eB p n S), s11, s12, s13, s14, .val (.tuple (groups.map eR)), .val (eN each), .no, s18, s19, s20]) (small := groups) hp hp2 hi hn h (fun gr hgr => ⟨Nat.eq_of_beq_eq_true (b1 gr hgr).1, (b1 gr hgr).2.1, fun x hx => (b1 gr hgr).2.2 x hx⟩) fun gr _ =>
    ⟨[s0, s1, s2, s3, s4, s5, .val (eN n), s7, s8, s9, .val (eB p n S), s11, s12, s13, s14, .val (.tuple (groups.map eR)), .val (eN each), .val (eR gr), s18, s19, s20], rfl, rfl, rfl, rfl⟩
  refine seq_nx (if_f (ne_nil_m (rows := []) (lM_ok (lc_ok (ds := groups.map eR) rfl q1 (by simp)))) rfl) (if_f ?_ rfl)
  have := neN_m (r := [s0, s1, s2, s3, s4, s5, .val (eN n), s7, s8, s9, .val (eB p n S), s11, s12, s13, s14, .val (.tuple (groups.map eR)), .val (eN each), .no, s18, s19, s20]) (ma := mBin gMul (mLen (mVar 15)) (mVar 16)) (mb := mVar 6) (a := groups.length * each) (b := n) (mulN_m (by rw [len_ok (d := .tuple (groups.map eR)) (ds := groups.map eR) rfl rfl, eN_len]) rfl (by omega)) rfl
  rw [b2', beq_self_eq_true] at this
  exact this
section
variable {p one other many told : Nat} {nums used : List Nat} {first second : List (List Nat)} {lst least : Sl} {g : Addr}
theorem crossed_tail (C : CC p one other many nums first second) (ok : NumsOk p nums (used.take told)) (i2 : m_crossed_exponents [eN one, eN other, eN many] = some (eR used)) (t1 : (m_want_told [eN used.length, eN told]).isSome = true)
    (hB : leafC p one other nums first second (used.take told) = true) (hfar : m__law_far_enough [eB p nums.length (bkS p nums (used.take told)), .list ((used.take told).map eN)] = some (.bool true)) :
    ct6 g [.pt g, lst, .val (eN p), .val (eN one), .val (eN other), .val (eN many), .val (eN nums.length), .val (.list (used.map eN)), least, .val (eN told), .no, .no, .no, .no, .no, .no, .no, .no, .no, .no, .no] (fun out => out = .rt (.bool true)) := by
  have hn12 : nums.length ≤ 12 := ok.h1
  have hb := cbook_m ok C.c1 C.c2 C.c4 C.hd C.h0 C.ho i2 t1 C.c3
  have gS : Good p nums.length (bkS p nums (used.take told)) := bk_good ok.hp ok.hi (by omega)
  have gP : Good p nums.length (powRows p nums (used.take told)) := pow_good ok.hp ok.h2
  have hw := words_m ok.hp ok.hp2 ok.hi (show nums.length ≤ 1000 by omega) gS
  have hred := lawred_m ok.hp ok.hp2 ok.hi (show nums.length ≤ 1000 by omega) gP
  unfold leafC at hB
  simp only [Bool.and_eq_true, decide_eq_true_eq] at hB
  obtain ⟨b1, b2, b3⟩ := hB
  have b2' := List.all_eq_true.mp b2
  have hpart : ∀ x ∈ [(first, one), (second, other)], partB p nums.length (nullP p (bkS p nums (used.take told)) nums.length) x = true := b2'
  have hwo := worths_m (p := p) (nums := nums) (exps := used.take told) (dn := .list (nums.map eN)) (de := .list ((used.take told).map eN)) rfl rfl ok.hp (by have := ok.hp2; omega) ok.he (by omega) ok.h2
  rw [b1] at hw
  generalize hSS : bkS p nums (used.take told) = S at hb gS hw hpart hfar
  refine wP_nx (r1 := [.pt g, lst, .val (eN p), .val (eN one), .val (eN other), .val (eN many), .val (eN nums.length), .val (.list (used.map eN)), least, .val (eN told), .val (eB p nums.length S), .val (.list (nums.map eN)), .no, .no, .no, .no, .no, .no, .no, .no, .no]) ?_ ?_
  · have q1 : mCall m_crossed_book (mCons (mVar 2) (mCons (mVar 3) (mCons (mVar 4) (mCons (mVar 5) (mCons (mVar 9) mNil))))) [.pt g, lst, .val (eN p), .val (eN one), .val (eN other), .val (eN many), .val (eN nums.length), .val (.list (used.map eN)), least, .val (eN told), .no, .no, .no, .no, .no, .no, .no, .no, .no, .no, .no] = some (eB p nums.length S) :=
      call_ok (cons_ok (d := eN p) rfl (cons_ok (d := eN one) rfl (cons_ok (d := eN other) rfl (cons_ok (d := eN many) rfl (cons_ok (d := eN told) rfl nil_ok))))) hb
    have q2 : mCall m__law_class_numbers (mCons (mVar 2) (mCons (mBin gMul (mVar 3) (mVar 4)) (mCons (mVar 5) mNil))) [.pt g, lst, .val (eN p), .val (eN one), .val (eN other), .val (eN many), .val (eN nums.length), .val (.list (used.map eN)), least, .val (eN told), .no, .no, .no, .no, .no, .no, .no, .no, .no, .no, .no] = some (.list (nums.map eN)) :=
      call_ok (cons_ok (d := eN p) rfl (cons_ok (mulN_m rfl rfl C.ho) (cons_ok (d := eN many) rfl nil_ok))) C.c6
    unfold v6__law_crossed_right mPar sV
    rw [q1, q2]; rfl
  refine wP_nx (r1 := [.pt g, lst, .val (eN p), .val (eN one), .val (eN other), .val (eN many), .val (eN nums.length), .val (.list (used.map eN)), least, .val (eN told), .val (eB p nums.length S), .val (.list (nums.map eN)), .val (.list ((redA p (powRows p nums (used.take told)) nums.length).map eR)), .no, .no, .no, .no, .no, .no, .no, .no]) ?_ ?_
  · exact set_ok (call_ok (cons_ok (d := eN p) rfl (cons_ok (call_ok (cons_ok (d := eN p) rfl (cons_ok (d := .list (nums.map eN)) rfl (cons_ok (lM_ok (takeL_m (xs := used) (k := told) rfl rfl)) nil_ok))) hwo) nil_ok)) hred)
  refine wP_nx (r1 := [.pt g, lst, .val (eN p), .val (eN one), .val (eN other), .val (eN many), .val (eN nums.length), .val (.list (used.map eN)), least, .val (eN told), .val (eB p nums.length S), .val (.list (nums.map eN)), .val (.list ((redA p (powRows p nums (used.take told)) nums.length).map eR)), .no, .no, .no, .no, .no, .no, .no, .no]) ?_ ?_
  · refine if_f (orB_f ?_ ?_) rfl
    · have := eqB_ok (neg := true) (ma := mCall m__law_words (mCons (mVar 10) mNil)) (mb := mVar 12) (r := [.pt g, lst, .val (eN p), .val (eN one), .val (eN other), .val (eN many), .val (eN nums.length), .val (.list (used.map eN)), least, .val (eN told), .val (eB p nums.length S), .val (.list (nums.map eN)), .val (.list ((redA p (powRows p nums (used.take told)) nums.length).map eR)), .no, .no, .no, .no, .no, .no, .no, .no])
        (call_ok (cons_ok (d := eB p nums.length S) rfl nil_ok) (by rw [← hSS] at hw ⊢; exact hw)) rfl (sh_Rs _) (sh_Rs _) (b := true) (by
          show PyData.eqvAll _ _ = true
          rw [eqv_eR]
          exact decide_eq_true rfl)
      exact this
    · have := neN_m (r := [.pt g, lst, .val (eN p), .val (eN one), .val (eN other), .val (eN many), .val (eN nums.length), .val (.list (used.map eN)), least, .val (eN told), .val (eB p nums.length S), .val (.list (nums.map eN)), .val (.list ((redA p (powRows p nums (used.take told)) nums.length).map eR)), .no, .no, .no, .no, .no, .no, .no, .no]) (ma := mIx (mVar 10) (mC (.int 1))) (mb := mVar 6) (a := nums.length) (b := nums.length) rfl rfl
      rw [beq_self_eq_true] at this
      exact this
  generalize redA p (powRows p nums (used.take told)) nums.length = R
  refine wP_nx (r1 := [.pt g, lst, .val (eN p), .val (eN one), .val (eN other), .val (eN many), .val (eN nums.length), .val (.list (used.map eN)), least, .val (eN told), .val (eB p nums.length S), .val (.list (nums.map eN)), .val (.list (R.map eR)), .val (.tuple (first.map eR)), .val (.tuple (second.map eR)), .no, .no, .no, .no, .no, .no]) ?_ ?_
  · unfold v9__law_crossed_right mUnp
    rw [call_ok (r := [.pt g, lst, .val (eN p), .val (eN one), .val (eN other), .val (eN many), .val (eN nums.length), .val (.list (used.map eN)), least, .val (eN told), .val (eB p nums.length S), .val (.list (nums.map eN)), .val (.list (R.map eR)), .no, .no, .no, .no, .no, .no, .no, .no]) (cons_ok (me := mVar 3) (d := eN one) rfl (cons_ok (me := mVar 4) (d := eN other) rfl (cons_ok (me := mVar 5) (d := eN many) rfl nil_ok))) C.c5]
    rfl
  -- the two partings
  obtain ⟨r10, h10, j15, j16, e10⟩ := forGo_fold (fun (_ : Unit) r => ∃ j15 j16, r = [.pt g, lst, .val (eN p), .val (eN one), .val (eN other), .val (eN many), .val (eN nums.length), .val (.list (used.map eN)), least, .val (eN told), .val (eB p nums.length S), .val (.list (nums.map eN)), .val (.list (R.map eR)), .val (.tuple (first.map eR)), .val (.tuple (second.map eR)), j15, j16, .no, .no, .no, .no])
    (fun x : List (List Nat) × Nat => PyData.tuple [.tuple (x.1.map eR), eN x.2]) (fun _ _ => ()) (tg := .pr 15 16) (m := cB10) [(first, one), (second, other)] (fun x hx s r hr => by
      obtain ⟨j15, j16, e⟩ := hr
      subst e
      exact ⟨[.pt g, lst, .val (eN p), .val (eN one), .val (eN other), .val (eN many), .val (eN nums.length), .val (.list (used.map eN)), least, .val (eN told), .val (eB p nums.length S), .val (.list (nums.map eN)), .val (.list (R.map eR)), .val (.tuple (first.map eR)), .val (.tuple (second.map eR)), .val (.tuple (x.1.map eR)), .val (eN x.2), .no, .no, .no, .no], _, rfl,
        part_m ok.hp ok.hp2 ok.hi (show nums.length < 60 by omega) gS (hpart x hx) .no rfl, _, _, rfl⟩) () [.pt g, lst, .val (eN p), .val (eN one), .val (eN other), .val (eN many), .val (eN nums.length), .val (.list (used.map eN)), least, .val (eN told), .val (eB p nums.length S), .val (.list (nums.map eN)), .val (.list (R.map eR)), .val (.tuple (first.map eR)), .val (.tuple (second.map eR)), .no, .no, .no, .no, .no, .no] ⟨.no, .no, rfl⟩
  refine wP_nx (r1 := r10) (for_ok rfl h10) ?_
  subst e10
  -- two classes share one place
  unfold pairB at b3
  simp only [List.all_eq_true, Bool.and_eq_true, decide_eq_true_eq] at b3
  obtain ⟨r11, h11, j17, j18, e11⟩ := forGo_fold (fun (_ : Unit) r => ∃ j17 j18, r = [.pt g, lst, .val (eN p), .val (eN one), .val (eN other), .val (eN many), .val (eN nums.length), .val (.list (used.map eN)), least, .val (eN told), .val (eB p nums.length S), .val (.list (nums.map eN)), .val (.list (R.map eR)), .val (.tuple (first.map eR)), .val (.tuple (second.map eR)), j15, j16, j17, j18, .no, .no])
    eR (fun _ _ => ()) (tg := .nm 17) (m := mFor (mSeq (mVar 14)) (.nm 18) (mIfS (mCmpB pGt (mLen (lM (mLc (mSeq (mVar 17)) (.nm 20) (mInB false (mVar 20) (mVar 18)) (mVar 20) [20]))) (mC (.int 1))) (mRet (mC (.bool false))) mSkip)) first (fun a ha s r hr => by
      obtain ⟨j17, j18, e⟩ := hr
      subst e
      obtain ⟨r2, h2, k18, e2⟩ := forGo_fold (fun (_ : Unit) r => ∃ j18, r = [.pt g, lst, .val (eN p), .val (eN one), .val (eN other), .val (eN many), .val (eN nums.length), .val (.list (used.map eN)), least, .val (eN told), .val (eB p nums.length S), .val (.list (nums.map eN)), .val (.list (R.map eR)), .val (.tuple (first.map eR)), .val (.tuple (second.map eR)), j15, j16, .val (eR a), j18, .no, .no])
        eR (fun _ _ => ()) (tg := .nm 18) (m := mIfS (mCmpB pGt (mLen (lM (mLc (mSeq (mVar 17)) (.nm 20) (mInB false (mVar 20) (mVar 18)) (mVar 20) [20]))) (mC (.int 1))) (mRet (mC (.bool false))) mSkip) second (fun b hb s r hr => by
          obtain ⟨j18, e⟩ := hr
          subst e
          refine ⟨[.pt g, lst, .val (eN p), .val (eN one), .val (eN other), .val (eN many), .val (eN nums.length), .val (.list (used.map eN)), least, .val (eN told), .val (eB p nums.length S), .val (.list (nums.map eN)), .val (.list (R.map eR)), .val (.tuple (first.map eR)), .val (.tuple (second.map eR)), j15, j16, .val (eR a), .val (eR b), .no, .no], _, rfl, if_f ?_ rfl, .val (eR b), rfl⟩
          obtain ⟨p1, p2⟩ := b3 a ha b hb
          have q : lcGo (.nm 20) (mInB false (mVar 20) (mVar 18)) (mVar 20) [.pt g, lst, .val (eN p), .val (eN one), .val (eN other), .val (eN many), .val (eN nums.length), .val (.list (used.map eN)), least, .val (eN told), .val (eB p nums.length S), .val (.list (nums.map eN)), .val (.list (R.map eR)), .val (.tuple (first.map eR)), .val (.tuple (second.map eR)), j15, j16, .val (eR a), .val (eR b), .no, .no] (a.map eN) = some ((a.filter fun x => b.contains x).map eN) :=
            lcGo_map eN (fun x => b.contains x) eN a fun x _ => ⟨[.pt g, lst, .val (eN p), .val (eN one), .val (eN other), .val (eN many), .val (eN nums.length), .val (.list (used.map eN)), least, .val (eN told), .val (eB p nums.length S), .val (.list (nums.map eN)), .val (.list (R.map eR)), .val (.tuple (first.map eR)), .val (.tuple (second.map eR)), j15, j16, .val (eR a), .val (eR b), .no, .val (eN x)], rfl, in_m rfl rfl, fun _ => rfl⟩
          have hl : mLen (lM (mLc (mSeq (mVar 17)) (.nm 20) (mInB false (mVar 20) (mVar 18)) (mVar 20) [20])) [.pt g, lst, .val (eN p), .val (eN one), .val (eN other), .val (eN many), .val (eN nums.length), .val (.list (used.map eN)), least, .val (eN told), .val (eB p nums.length S), .val (.list (nums.map eN)), .val (.list (R.map eR)), .val (.tuple (first.map eR)), .val (.tuple (second.map eR)), j15, j16, .val (eR a), .val (eR b), .no, .no] = some (eN (a.filter fun x => b.contains x).length) := by
            rw [len_ok (lM_ok (lc_ok (ds := a.map eN) rfl q (by rw [List.length_map]; omega))) rfl, eN_len]
          rw [cmp_ok (p := pGt) (i := Int.ofNat (a.filter fun x => b.contains x).length) (j := 1) (iM_of hl) rfl]
          exact congrArg some (decide_eq_false (fun z => by
            have := Int.ofNat_lt.mp (show Int.ofNat 1 < Int.ofNat (a.filter fun x => b.contains x).length from z)
            omega))) () [.pt g, lst, .val (eN p), .val (eN one), .val (eN other), .val (eN many), .val (eN nums.length), .val (.list (used.map eN)), least, .val (eN told), .val (eB p nums.length S), .val (.list (nums.map eN)), .val (.list (R.map eR)), .val (.tuple (first.map eR)), .val (.tuple (second.map eR)), j15, j16, .val (eR a), j18, .no, .no] ⟨j18, rfl⟩
      subst e2
      exact ⟨_, _, rfl, for_ok (ds := second.map eR) rfl h2, _, _, rfl⟩) () [.pt g, lst, .val (eN p), .val (eN one), .val (eN other), .val (eN many), .val (eN nums.length), .val (.list (used.map eN)), least, .val (eN told), .val (eB p nums.length S), .val (.list (nums.map eN)), .val (.list (R.map eR)), .val (.tuple (first.map eR)), .val (.tuple (second.map eR)), j15, j16, .no, .no, .no, .no] ⟨.no, .no, rfl⟩
  refine wP_nx (r1 := r11) (for_ok (ds := first.map eR) rfl h11) ?_
  subst e11
  exact ⟨.rt (.bool true), ret_ok (call_ok (cons_ok (d := eB p nums.length S) rfl (cons_ok (lM_ok (takeL_m (xs := used) (k := told) rfl rfl)) nil_ok)) hfar), rfl⟩
end
end Pl
set_option Elab.async false
set_option linter.all false
set_option maxRecDepth 100000
set_option maxHeartbeats 4000000
namespace Pl
open PySem Ly Mf L2
def unN : PyData → Option Nat
  | .int (.ofNat n) => some n
  | _ => none
theorem unN_ok {d : PyData} {n : Nat} (h : unN d = some n) : d = eN n := by
  unfold unN at h
  split at h
  · cases h; rfl
  · cases h
def unL : List PyData → Option (List Nat)
  | [] => some []
  | d :: ds => (unN d).bind fun n => (unL ds).map fun ns => n :: ns
theorem unL_ok : ∀ {ds : List PyData} {ns : List Nat}, unL ds = some ns → ds = ns.map eN
  | [], _, h => by cases h; rfl
  | d :: ds, _, h => by
    obtain ⟨n, h1, h⟩ := bind_some h
    obtain ⟨ns, h2, h⟩ := map_some h
    subst h
    rw [unN_ok h1, unL_ok h2]; rfl
def unRs : List PyData → Option (List (List Nat))
  | [] => some []
  | d :: ds => ((asTup d).bind unL).bind fun n => (unRs ds).map fun ns => n :: ns
theorem unRs_ok : ∀ {ds : List PyData} {ns : List (List Nat)}, unRs ds = some ns → ds = ns.map eR
  | [], _, h => by cases h; rfl
  | d :: ds, _, h => by
    obtain ⟨n, h1, h⟩ := bind_some h
    obtain ⟨ns, h2, h⟩ := map_some h
    obtain ⟨es, h3, h4⟩ := bind_some h1
    subst h
    rw [asTup_ok h3, unL_ok h4, unRs_ok h2]; rfl
def isR (d : Option PyData) (r : List Nat) : Bool := decide ((d.bind asTup).bind unL = some r)
theorem isR_ok {d : Option PyData} {r : List Nat} (h : isR d r = true) : d = some (eR r) := by
  have h := of_decide_eq_true h
  obtain ⟨es, h1, h2⟩ := bind_some h
  obtain ⟨e, h3, h4⟩ := bind_some h1
  rw [h3, asTup_ok h4, unL_ok h2]; rfl
def isLs (d : Option PyData) (r : List Nat) : Bool := decide ((d.bind asLst).bind unL = some r)
theorem isLs_ok {d : Option PyData} {r : List Nat} (h : isLs d r = true) : d = some (.list (r.map eN)) := by
  have h := of_decide_eq_true h
  obtain ⟨es, h1, h2⟩ := bind_some h
  obtain ⟨e, h3, h4⟩ := bind_some h1
  rw [h3, asLst_ok h4, unL_ok h2]
def un2 : List PyData → Option (List (List Nat) × List (List Nat))
  | [a, b] => ((asTup a).bind unRs).bind fun x => ((asTup b).bind unRs).map fun y => (x, y)
  | _ => none
theorem un2_ok {ds : List PyData} {x y : List (List Nat)} (h : un2 ds = some (x, y)) : ds = [.tuple (x.map eR), .tuple (y.map eR)] := by
  unfold un2 at h
  split at h
  · next a b =>
    obtain ⟨x1, h1, h⟩ := bind_some h
    obtain ⟨y1, h2, h⟩ := map_some h
    cases h
    obtain ⟨es, h3, h4⟩ := bind_some h1
    obtain ⟨fs, h5, h6⟩ := bind_some h2
    rw [asTup_ok h3, asTup_ok h5, unRs_ok h4, unRs_ok h6]
  · cases h
def is2 (d : Option PyData) (x y : List (List Nat)) : Bool := decide ((d.bind asTup).bind un2 = some (x, y))
theorem is2_ok {d : Option PyData} {x y : List (List Nat)} (h : is2 d x y = true) : d = some (.tuple [.tuple (x.map eR), .tuple (y.map eR)]) := by
  have h := of_decide_eq_true h
  obtain ⟨es, h1, h2⟩ := bind_some h
  obtain ⟨e, h3, h4⟩ := bind_some h1
  rw [h3, asTup_ok h4, un2_ok h2]
def ncB (p few wide many : Nat) (nums : List Nat) (small : List (List Nat)) : Bool :=
  (m_want_wide_classes [eN p, eN few, eN wide]).isSome && ((m_want_many [eN p, eN wide, eN many]).isSome && (isR (m_numbers_by [eN p, eN wide, eN many]) nums && (isLs (m__law_class_numbers [eN p, eN wide, eN many]) nums && (is2 (m_nested_groups [eN p, eN few, eN wide, eN many]) small (greatP wide many) &&
    decide (nums.length = wide * many ∧ wide ≤ 12 ∧ many ≤ 12 ∧ 0 < many ∧ small.length ≤ 1000)))))
theorem nc_ok {p few wide many : Nat} {nums : List Nat} {small : List (List Nat)} (h : ncB p few wide many nums small = true) : NC p few wide many nums small := by
  unfold ncB at h
  simp only [Bool.and_eq_true] at h
  obtain ⟨h1, h2, h3, h4, h5, h6⟩ := h
  obtain ⟨k1, k2, k3, k4, k5⟩ := of_decide_eq_true h6
  exact ⟨h1, h2, isR_ok h3, isLs_ok h4, is2_ok h5, k1, k2, k3, k4, k5⟩
def ccB (p one other many : Nat) (nums : List Nat) (first second : List (List Nat)) : Bool :=
  (m_want_prime [eN p]).isSome && ((m_want_crossed [eN one, eN other]).isSome && ((m_want_many [eN p, eN (one * other), eN many]).isSome && (isR (m_numbers_by [eN p, eN (one * other), eN many]) nums && (isLs (m__law_class_numbers [eN p, eN (one * other), eN many]) nums && (is2 (m_crossed_groups [eN one, eN other, eN many]) first second &&
    decide ((p - 1) % (one * other) = 0 ∧ 0 < one * other ∧ one < 1000000 ∧ nums.length = one * other * many ∧ first.length ≤ 1000 ∧ second.length ≤ 1000))))))
theorem cc_ok {p one other many : Nat} {nums : List Nat} {first second : List (List Nat)} (h : ccB p one other many nums first second = true) : CC p one other many nums first second := by
  unfold ccB at h
  simp only [Bool.and_eq_true] at h
  obtain ⟨h1, h2, h3, h4, h5, h6, h7⟩ := h
  obtain ⟨k1, k2, k3, k4, k5, k6⟩ := of_decide_eq_true h7
  exact ⟨h1, h2, h3, k1, k2, k3, isR_ok h4, isLs_ok h5, is2_ok h6, k4, k5, k6⟩
def pinvB (p : Nat) : Bool := (List.range p).all fun a => Nat.beq a 0 || Nat.beq (a * invP p a % p) 1
theorem pinv_ok {p : Nat} (h : pinvB p = true) : PInv p := fun a ha h0 => by
  have q := List.all_eq_true.mp h a (List.mem_range.mpr ha)
  simp only [Bool.or_eq_true] at q
  rcases q with q | q
  · have := Nat.eq_of_beq_eq_true q
    omega
  · exact Nat.eq_of_beq_eq_true q
def numsB (p : Nat) (nums exps : List Nat) : Bool := decide (1 < p ∧ p < 1000) && (pinvB p && ((nums.all fun a => decide (a < 1000000)) && ((exps.all fun e => decide (e < 1000)) && decide (nums.length ≤ 12 ∧ exps.length ≤ 1000))))
theorem nums_ok {p : Nat} {nums exps : List Nat} (h : numsB p nums exps = true) : NumsOk p nums exps := by
  unfold numsB at h
  simp only [Bool.and_eq_true, List.all_eq_true, decide_eq_true_eq] at h
  obtain ⟨⟨h1, h2⟩, h3, h4, h5, h6, h7⟩ := h
  exact ⟨h1, h2, pinv_ok h3, h4, h5, h6, h7⟩
def lotsB (n : Nat) : Bool := (List.range (n + 1)).all fun j => decide ((lotsA n j).length ≤ 8000)
theorem lots_bd {n : Nat} (h : lotsB n = true) : ∀ j, j ≤ n → (lotsA n j).length ≤ 8000 := fun j hj => of_decide_eq_true (List.all_eq_true.mp h j (List.mem_range.mpr (by omega)))
theorem ap_facts {p d : Nat} {nums exps : List Nat} (ok : NumsOk p nums exps) (hl : lotsB nums.length = true) (hw : (m_want_book [eB p nums.length (bkS p nums exps), .str "book"]).isSome = true) (h : apB p nums exps d = true) :
    m_apart_of [eB p nums.length (bkS p nums exps)] = some (eN d) ∧ m__law_apart [eB p nums.length (bkS p nums exps)] = some (eN d) := by
  have gS : Good p nums.length (bkS p nums exps) := bk_good ok.hp ok.hi (by have := ok.h1; omega)
  unfold apB at h
  simp only [Bool.and_eq_true] at h
  obtain ⟨h1, h2⟩ := h
  refine ⟨apartof_m hw (apart_m (mlw_m ok.hp ok.hp2 ok.hi ok.h1 gS (lots_bd hl)) h1), lawapart_m ok.hp ok.hp2 ok.hi ok.h1 gS ?_⟩
  rw [lawApartF_eq ok.hp ok.hi (words_good (S := bkS p nums exps) ok.hp ok.hi (by have := ok.h1; omega)).2]
  split at h2
  · next e he => rw [he, Nat.eq_of_beq_eq_true h2]
  · cases h2
/-! the same, level by level (so that the kernel looks at less at once) -/
def lvB (p : Nat) (nums exps : List Nat) (m : Nat) : Bool := (levelP p nums.length (redA p (bkS p nums exps) nums.length) m).isEmpty
def lgB (p : Nat) (nums exps : List Nat) (m : Nat) : Bool := (lotsL nums.length m).any fun lot => farF p nums.length (nullP p (bkS p nums exps) nums.length) lot
def fdB (p : Nat) (nums exps : List Nat) (d : Nat) : Bool := foundOk nums.length d (levelP p nums.length (redA p (bkS p nums exps) nums.length) d)
theorem lw_from {p n d : Nat} {sums : List (List Nat)} (hd : d ≤ n) (hne : levelP p n sums d ≠ []) : ∀ (j m k : Nat), m + j = d → j < k → (∀ i, m ≤ i → i < d → levelP p n sums i = []) → lwP p n sums k m = levelP p n sums d
  | 0, m, 0, _, h, _ => by omega
  | 0, m, k + 1, e, _, _ => by
    have e2 : m = d := by omega
    subst e2
    unfold lwP
    rw [if_pos hd]
    cases hv : levelP p n sums m with
    | nil => exact absurd hv hne
    | cons x xs => rfl
  | j + 1, m, 0, _, h, _ => by omega
  | j + 1, m, k + 1, e, hk, h => by
    unfold lwP
    rw [if_pos (by omega), h m (Nat.le_refl m) (by omega)]
    exact lw_from hd hne j (m + 1) k (by omega) (by omega) fun i h1 h2 => h i (by omega) h2
theorem apB_of {p d : Nat} {nums exps : List Nat} (hd : 1 ≤ d ∧ d ≤ nums.length ∧ d < 1000) (h1 : ∀ m, 1 ≤ m → m < d → lvB p nums exps m = true ∧ lgB p nums exps m = false) (h2 : fdB p nums exps d = true) (h3 : lgB p nums exps d = true) : apB p nums exps d = true := by
  obtain ⟨d1, d2, d3⟩ := hd
  unfold fdB at h2
  have hne : levelP p nums.length (redA p (bkS p nums exps) nums.length) d ≠ [] := fun z => by
    rw [z] at h2
    cases h2
  have e1 := lw_from d2 hne (d - 1) 1 1000 (by omega) (by omega) fun i i1 i2 => List.isEmpty_iff.mp (h1 i i1 i2).1
  have e2 : lawApartF p nums.length (nullP p (bkS p nums exps) nums.length) = some d := by
    unfold lawApartF
    rw [List.find?_eq_some_iff_append]
    refine ⟨h3, (List.range (d - 1)).map (· + 1), (List.range' d (nums.length - d)).map (· + 1), ?_, fun m hm => ?_⟩
    · have e : List.range nums.length = List.range (d - 1) ++ ((d - 1) :: List.range' d (nums.length - d)) := by
        have e3 : (d - 1) :: List.range' d (nums.length - d) = List.range' (d - 1) (nums.length - d + 1) := by
          rw [List.range'_succ, show d - 1 + 1 = d by omega]
        rw [e3, List.range_eq_range', List.range_eq_range']
        have := List.range'_append (s := 0) (m := d - 1) (n := nums.length - d + 1) (step := 1)
        rw [Nat.zero_add, Nat.one_mul] at this
        rw [this]
        congr 1
        omega
      rw [e, List.map_append, List.map_cons, show d - 1 + 1 = d by omega]
    · obtain ⟨k, hk, ek⟩ := List.mem_map.mp hm
      have hk2 := List.mem_range.mp hk
      have := (h1 m (by omega) (by omega)).2
      unfold lgB at this
      rw [this]; rfl
  unfold apB
  rw [e1, e2]
  show (foundOk nums.length d _ && Nat.beq d d) = true
  rw [h2, Nat.beq_refl]
  rfl
end Pl
set_option Elab.async false
set_option linter.all false
set_option maxRecDepth 100000
set_option maxHeartbeats 0
namespace Pl
open PySem Ly Mf L2
def nu_7_6_1 : List Nat := [1, 3, 2, 6, 4, 5]
def sm0 : List (List Nat) := [[0, 3], [1, 4], [2, 5]]
def ex_0 : List Nat := [0]
def ex_0_2 : List Nat := [0, 2]
def ex_0_2_4 : List Nat := [0, 2, 4]
def nu_13_6_1 : List Nat := [1, 4, 3, 12, 9, 10]
def sm1 : List (List Nat) := [[0, 2, 4], [1, 3, 5]]
def ex_0_1 : List Nat := [0, 1]
def ex_0_1_3 : List Nat := [0, 1, 3]
def ex_0_1_3_4 : List Nat := [0, 1, 3, 4]
def nu_19_6_1 : List Nat := [1, 8, 7, 18, 11, 12]
def sm2 : List (List Nat) := [[0, 2, 4], [1, 3, 5]]
def nu_5_4_1 : List Nat := [1, 2, 4, 3]
def sm3 : List (List Nat) := [[0, 2], [1, 3]]
def nu_17_4_2 : List Nat := [1, 13, 16, 4, 3, 5, 14, 12]
def sm4 : List (List Nat) := [[0, 2], [1, 3], [4, 6], [5, 7]]
def ex_0_4 : List Nat := [0, 4]
def ex_0_2_4_6 : List Nat := [0, 2, 4, 6]
def nu_13_6_2 : List Nat := [1, 4, 3, 12, 9, 10, 2, 8, 6, 11, 5, 7]
def sm5 : List (List Nat) := [[0, 3], [1, 4], [2, 5], [6, 9], [7, 10], [8, 11]]
def ex_0_2_6_8 : List Nat := [0, 2, 6, 8]
def ex_0_2_6 : List Nat := [0, 2, 6]
def sm6 : List (List Nat) := [[0, 3], [1, 4], [2, 5], [6, 9], [7, 10], [8, 11]]
def nu_31_6_2 : List Nat := [1, 26, 25, 30, 5, 6, 3, 16, 13, 28, 15, 18]
def sm7 : List (List Nat) := [[0, 2, 4], [1, 3, 5], [6, 8, 10], [7, 9, 11]]
def ex_0_1_3_6_7_9 : List Nat := [0, 1, 3, 6, 7, 9]
def ex_0_1_3_6 : List Nat := [0, 1, 3, 6]
def ex_0_1_3_6_7 : List Nat := [0, 1, 3, 6, 7]
def nu_37_6_2 : List Nat := [1, 27, 26, 36, 10, 11, 2, 17, 15, 35, 20, 22]
def sm8 : List (List Nat) := [[0, 3], [1, 4], [2, 5], [6, 9], [7, 10], [8, 11]]
def nu_29_4_2 : List Nat := [1, 12, 28, 17, 2, 24, 27, 5]
def sm9 : List (List Nat) := [[0, 1, 2, 3], [4, 5, 6, 7]]
def ex_0_1_4_5 : List Nat := [0, 1, 4, 5]
def ex_0_1_4 : List Nat := [0, 1, 4]
def ex_0_1_2_4_5_6 : List Nat := [0, 1, 2, 4, 5, 6]
def ex_0_1_2 : List Nat := [0, 1, 2]
def ex_0_1_2_4 : List Nat := [0, 1, 2, 4]
def ex_0_1_2_4_5 : List Nat := [0, 1, 2, 4, 5]
def fi0 : List (List Nat) := [[0, 3], [1, 4], [2, 5]]
def se0 : List (List Nat) := [[0, 2, 4], [1, 3, 5]]
def fi1 : List (List Nat) := [[0, 2, 4], [1, 3, 5], [6, 8, 10], [7, 9, 11]]
def se1 : List (List Nat) := [[0, 3], [1, 4], [2, 5], [6, 9], [7, 10], [8, 11]]
def ex_0_4_6_10 : List Nat := [0, 4, 6, 10]
def ex_0_4_6 : List Nat := [0, 4, 6]
def nu_13_12_1 : List Nat := [1, 2, 4, 8, 3, 6, 12, 11, 9, 5, 10, 7]
def fi2 : List (List Nat) := [[0, 4, 8], [1, 5, 9], [2, 6, 10], [3, 7, 11]]
def se2 : List (List Nat) := [[0, 3, 6, 9], [1, 4, 7, 10], [2, 5, 8, 11]]
def ex_0_1_4_6_9_10 : List Nat := [0, 1, 4, 6, 9, 10]
def ex_0_1_4_6 : List Nat := [0, 1, 4, 6]
def ex_0_1_4_6_9 : List Nat := [0, 1, 4, 6, 9]
def nu_11_10_1 : List Nat := [1, 2, 4, 8, 5, 10, 9, 7, 3, 6]
def fi3 : List (List Nat) := [[0, 5], [1, 6], [2, 7], [3, 8], [4, 9]]
def se3 : List (List Nat) := [[0, 2, 4, 6, 8], [1, 3, 5, 7, 9]]
def fi4 : List (List Nat) := [[0, 3], [1, 4], [2, 5], [6, 9], [7, 10], [8, 11]]
def se4 : List (List Nat) := [[0, 2, 4], [1, 3, 5], [6, 8, 10], [7, 9, 11]]
def nu_31_10_1 : List Nat := [1, 27, 16, 29, 8, 30, 4, 15, 2, 23]
def fi5 : List (List Nat) := [[0, 2, 4, 6, 8], [1, 3, 5, 7, 9]]
def se5 : List (List Nat) := [[0, 5], [1, 6], [2, 7], [3, 8], [4, 9]]
def fi6 : List (List Nat) := [[0, 2, 4], [1, 3, 5]]
def se6 : List (List Nat) := [[0, 3], [1, 4], [2, 5]]
theorem nfit_of {p few wide many inn : Nat} {g : Addr} {lst : Sl} {us : List Nat} (h : isLs ((mLc (mRg1 (mBin gMul (mVar 4) (mVar 5))) (.nm 17) (mAndB (mCmpB pNe (mBin gMod (mVar 17) (mBin gAdd (mVar 3) (mC (.int 1)))) (mVar 3)) (mCmpB pLt (mBin gMod (mVar 17) (mVar 4)) (mVar 6))) (mVar 17) [17] [.no, .no, .val (eN p), .val (eN few), .val (eN wide), .val (eN many), .val (eN inn), .no, .no, .no, .no, .no, .no, .no, .no, .no, .no, .no, .no, .no]).map PyData.list) us = true) :
    v4__law_nested_right [.pt g, lst, .val (eN p), .val (eN few), .val (eN wide), .val (eN many), .val (eN inn), .no, .no, .no, .no, .no, .no, .no, .no, .no, .no, .no, .no, .no] = some (.nx [.pt g, lst, .val (eN p), .val (eN few), .val (eN wide), .val (eN many), .val (eN inn), .val (.list (us.map eN)), .no, .no, .no, .no, .no, .no, .no, .no, .no, .no, .no, .no]) := by
  have e := isLs_ok h
  obtain ⟨ds, e1, e2⟩ := map_some e
  cases e2
  have same : ∀ (ds : List PyData), lcGo (.nm 17) (mAndB (mCmpB pNe (mBin gMod (mVar 17) (mBin gAdd (mVar 3) (mC (.int 1)))) (mVar 3)) (mCmpB pLt (mBin gMod (mVar 17) (mVar 4)) (mVar 6))) (mVar 17) [.pt g, lst, .val (eN p), .val (eN few), .val (eN wide), .val (eN many), .val (eN inn), .no, .no, .no, .no, .no, .no, .no, .no, .no, .no, .no, .no, .no] ds
      = lcGo (.nm 17) (mAndB (mCmpB pNe (mBin gMod (mVar 17) (mBin gAdd (mVar 3) (mC (.int 1)))) (mVar 3)) (mCmpB pLt (mBin gMod (mVar 17) (mVar 4)) (mVar 6))) (mVar 17) [.no, .no, .val (eN p), .val (eN few), .val (eN wide), .val (eN many), .val (eN inn), .no, .no, .no, .no, .no, .no, .no, .no, .no, .no, .no, .no, .no] ds := by
    intro ds
    induction ds with
    | nil => rfl
    | cons d ds ih =>
      unfold lcGo
      rw [ih]; rfl
  refine set_ok (lM_ok (Eq.trans ?_ e1))
  unfold mLc
  refine congrArg (Option.bind (mRg1 (mBin gMul (mVar 4) (mVar 5)) [.no, .no, .val (eN p), .val (eN few), .val (eN wide), .val (eN many), .val (eN inn), .no, .no, .no, .no, .no, .no, .no, .no, .no, .no, .no, .no, .no])) (funext fun ds => ?_)
  exact congrArg (fun z => Option.bind z fun out => if okSz out then some out else none) (same ds)
theorem cfit_of {p one other many n : Nat} {g : Addr} {lst : Sl} {us : List Nat} (h : isLs ((mLc (mRg1 (mVar 6)) (.nm 19) (mAndB (mCmpB pNe (mBin gMod (mVar 19) (mVar 3)) (mBin Ly.gSub (mVar 3) (mC (.int 1)))) (mCmpB pNe (mBin gMod (mVar 19) (mVar 4)) (mBin Ly.gSub (mVar 4) (mC (.int 1))))) (mVar 19) [19] [.no, .no, .val (eN p), .val (eN one), .val (eN other), .val (eN many), .val (eN n), .no, .no, .no, .no, .no, .no, .no, .no, .no, .no, .no, .no, .no, .no]).map PyData.list) us = true) :
    v3__law_crossed_right [.pt g, lst, .val (eN p), .val (eN one), .val (eN other), .val (eN many), .val (eN n), .no, .no, .no, .no, .no, .no, .no, .no, .no, .no, .no, .no, .no, .no] = some (.nx [.pt g, lst, .val (eN p), .val (eN one), .val (eN other), .val (eN many), .val (eN n), .val (.list (us.map eN)), .no, .no, .no, .no, .no, .no, .no, .no, .no, .no, .no, .no, .no]) := by
  have e := isLs_ok h
  obtain ⟨ds, e1, e2⟩ := map_some e
  cases e2
  have same : ∀ (ds : List PyData), lcGo (.nm 19) (mAndB (mCmpB pNe (mBin gMod (mVar 19) (mVar 3)) (mBin Ly.gSub (mVar 3) (mC (.int 1)))) (mCmpB pNe (mBin gMod (mVar 19) (mVar 4)) (mBin Ly.gSub (mVar 4) (mC (.int 1))))) (mVar 19) [.pt g, lst, .val (eN p), .val (eN one), .val (eN other), .val (eN many), .val (eN n), .no, .no, .no, .no, .no, .no, .no, .no, .no, .no, .no, .no, .no, .no] ds
      = lcGo (.nm 19) (mAndB (mCmpB pNe (mBin gMod (mVar 19) (mVar 3)) (mBin Ly.gSub (mVar 3) (mC (.int 1)))) (mCmpB pNe (mBin gMod (mVar 19) (mVar 4)) (mBin Ly.gSub (mVar 4) (mC (.int 1))))) (mVar 19) [.no, .no, .val (eN p), .val (eN one), .val (eN other), .val (eN many), .val (eN n), .no, .no, .no, .no, .no, .no, .no, .no, .no, .no, .no, .no, .no, .no] ds := by
    intro ds
    induction ds with
    | nil => rfl
    | cons d ds ih =>
      unfold lcGo
      rw [ih]; rfl
  refine set_ok (lM_ok (Eq.trans ?_ e1))
  unfold mLc
  refine congrArg (Option.bind (mRg1 (mVar 6) [.no, .no, .val (eN p), .val (eN one), .val (eN other), .val (eN many), .val (eN n), .no, .no, .no, .no, .no, .no, .no, .no, .no, .no, .no, .no, .no, .no])) (funext fun ds => ?_)
  exact congrArg (fun z => Option.bind z fun out => if okSz out then some out else none) (same ds)
end Pl
set_option Elab.async false
set_option linter.all false
set_option maxRecDepth 100000
set_option maxHeartbeats 0
namespace Pl
open PySem Ly Mf L2
theorem nc0 : NC 7 1 6 1 nu_7_6_1 sm0 := nc_ok (by decide +kernel)
theorem i1_n0_1 : (m_want_inner [eN 6, eN 1]).isSome = true := by decide +kernel
theorem i2_n0_1 : m_nested_exponents [eN 1, eN 6, eN 1, eN 1] = some (eR ex_0) := isR_ok (by decide +kernel)
theorem ok0 : NumsOk 7 nu_7_6_1 ex_0 := nums_ok (by decide +kernel)
theorem tw_n0_1_1 : (m_want_told [eN ex_0.length, eN 1]).isSome = true := by decide +kernel
theorem lots6 : lotsB 6 = true := by decide +kernel
theorem i1_n0_2 : (m_want_inner [eN 6, eN 2]).isSome = true := by decide +kernel
theorem i2_n0_2 : m_nested_exponents [eN 1, eN 6, eN 2, eN 1] = some (eR ex_0) := isR_ok (by decide +kernel)
theorem tw_n0_2_1 : (m_want_told [eN ex_0.length, eN 1]).isSome = true := by decide +kernel
theorem i1_n0_3 : (m_want_inner [eN 6, eN 3]).isSome = true := by decide +kernel
theorem i2_n0_3 : m_nested_exponents [eN 1, eN 6, eN 3, eN 1] = some (eR ex_0_2) := isR_ok (by decide +kernel)
theorem tw_n0_3_1 : (m_want_told [eN ex_0_2.length, eN 1]).isSome = true := by decide +kernel
theorem ok1 : NumsOk 7 nu_7_6_1 ex_0_2 := nums_ok (by decide +kernel)
theorem tw_n0_3_2 : (m_want_told [eN ex_0_2.length, eN 2]).isSome = true := by decide +kernel
theorem i1_n0_4 : (m_want_inner [eN 6, eN 4]).isSome = true := by decide +kernel
theorem i2_n0_4 : m_nested_exponents [eN 1, eN 6, eN 4, eN 1] = some (eR ex_0_2) := isR_ok (by decide +kernel)
theorem tw_n0_4_1 : (m_want_told [eN ex_0_2.length, eN 1]).isSome = true := by decide +kernel
theorem tw_n0_4_2 : (m_want_told [eN ex_0_2.length, eN 2]).isSome = true := by decide +kernel
theorem i1_n0_5 : (m_want_inner [eN 6, eN 5]).isSome = true := by decide +kernel
theorem i2_n0_5 : m_nested_exponents [eN 1, eN 6, eN 5, eN 1] = some (eR ex_0_2_4) := isR_ok (by decide +kernel)
theorem tw_n0_5_1 : (m_want_told [eN ex_0_2_4.length, eN 1]).isSome = true := by decide +kernel
theorem tw_n0_5_2 : (m_want_told [eN ex_0_2_4.length, eN 2]).isSome = true := by decide +kernel
theorem ok2 : NumsOk 7 nu_7_6_1 ex_0_2_4 := nums_ok (by decide +kernel)
theorem tw_n0_5_3 : (m_want_told [eN ex_0_2_4.length, eN 3]).isSome = true := by decide +kernel
theorem i1_n0_6 : (m_want_inner [eN 6, eN 6]).isSome = true := by decide +kernel
theorem i2_n0_6 : m_nested_exponents [eN 1, eN 6, eN 6, eN 1] = some (eR ex_0_2_4) := isR_ok (by decide +kernel)
theorem tw_n0_6_1 : (m_want_told [eN ex_0_2_4.length, eN 1]).isSome = true := by decide +kernel
theorem tw_n0_6_2 : (m_want_told [eN ex_0_2_4.length, eN 2]).isSome = true := by decide +kernel
theorem tw_n0_6_3 : (m_want_told [eN ex_0_2_4.length, eN 3]).isSome = true := by decide +kernel
theorem nfit0 (inn : Nat) (g : Addr) (lst : Sl) (us : List Nat) (h : isLs ((mLc (mRg1 (mBin gMul (mVar 4) (mVar 5))) (.nm 17) (mAndB (mCmpB pNe (mBin gMod (mVar 17) (mBin gAdd (mVar 3) (mC (.int 1)))) (mVar 3)) (mCmpB pLt (mBin gMod (mVar 17) (mVar 4)) (mVar 6))) (mVar 17) [17] [.no, .no, .val (eN 7), .val (eN 1), .val (eN 6), .val (eN 1), .val (eN inn), .no, .no, .no, .no, .no, .no, .no, .no, .no, .no, .no, .no, .no]).map PyData.list) us = true) :
    v4__law_nested_right [.pt g, lst, .val (eN 7), .val (eN 1), .val (eN 6), .val (eN 1), .val (eN inn), .no, .no, .no, .no, .no, .no, .no, .no, .no, .no, .no, .no, .no] = some (.nx [.pt g, lst, .val (eN 7), .val (eN 1), .val (eN 6), .val (eN 1), .val (eN inn), .val (.list (us.map eN)), .no, .no, .no, .no, .no, .no, .no, .no, .no, .no, .no, .no]) :=
  nfit_of h
theorem nc1 : NC 13 2 6 1 nu_13_6_1 sm1 := nc_ok (by decide +kernel)
theorem i1_n1_1 : (m_want_inner [eN 6, eN 1]).isSome = true := by decide +kernel
theorem i2_n1_1 : m_nested_exponents [eN 2, eN 6, eN 1, eN 1] = some (eR ex_0) := isR_ok (by decide +kernel)
theorem ok3 : NumsOk 13 nu_13_6_1 ex_0 := nums_ok (by decide +kernel)
theorem tw_n1_1_1 : (m_want_told [eN ex_0.length, eN 1]).isSome = true := by decide +kernel
theorem i1_n1_2 : (m_want_inner [eN 6, eN 2]).isSome = true := by decide +kernel
theorem i2_n1_2 : m_nested_exponents [eN 2, eN 6, eN 2, eN 1] = some (eR ex_0_1) := isR_ok (by decide +kernel)
theorem tw_n1_2_1 : (m_want_told [eN ex_0_1.length, eN 1]).isSome = true := by decide +kernel
theorem ok4 : NumsOk 13 nu_13_6_1 ex_0_1 := nums_ok (by decide +kernel)
theorem tw_n1_2_2 : (m_want_told [eN ex_0_1.length, eN 2]).isSome = true := by decide +kernel
theorem i1_n1_3 : (m_want_inner [eN 6, eN 3]).isSome = true := by decide +kernel
theorem i2_n1_3 : m_nested_exponents [eN 2, eN 6, eN 3, eN 1] = some (eR ex_0_1) := isR_ok (by decide +kernel)
theorem tw_n1_3_1 : (m_want_told [eN ex_0_1.length, eN 1]).isSome = true := by decide +kernel
theorem tw_n1_3_2 : (m_want_told [eN ex_0_1.length, eN 2]).isSome = true := by decide +kernel
theorem i1_n1_4 : (m_want_inner [eN 6, eN 4]).isSome = true := by decide +kernel
theorem i2_n1_4 : m_nested_exponents [eN 2, eN 6, eN 4, eN 1] = some (eR ex_0_1_3) := isR_ok (by decide +kernel)
theorem tw_n1_4_1 : (m_want_told [eN ex_0_1_3.length, eN 1]).isSome = true := by decide +kernel
theorem tw_n1_4_2 : (m_want_told [eN ex_0_1_3.length, eN 2]).isSome = true := by decide +kernel
theorem ok5 : NumsOk 13 nu_13_6_1 ex_0_1_3 := nums_ok (by decide +kernel)
theorem tw_n1_4_3 : (m_want_told [eN ex_0_1_3.length, eN 3]).isSome = true := by decide +kernel
theorem i1_n1_5 : (m_want_inner [eN 6, eN 5]).isSome = true := by decide +kernel
theorem i2_n1_5 : m_nested_exponents [eN 2, eN 6, eN 5, eN 1] = some (eR ex_0_1_3_4) := isR_ok (by decide +kernel)
theorem tw_n1_5_1 : (m_want_told [eN ex_0_1_3_4.length, eN 1]).isSome = true := by decide +kernel
theorem tw_n1_5_2 : (m_want_told [eN ex_0_1_3_4.length, eN 2]).isSome = true := by decide +kernel
theorem tw_n1_5_3 : (m_want_told [eN ex_0_1_3_4.length, eN 3]).isSome = true := by decide +kernel
theorem ok6 : NumsOk 13 nu_13_6_1 ex_0_1_3_4 := nums_ok (by decide +kernel)
theorem tw_n1_5_4 : (m_want_told [eN ex_0_1_3_4.length, eN 4]).isSome = true := by decide +kernel
theorem i1_n1_6 : (m_want_inner [eN 6, eN 6]).isSome = true := by decide +kernel
theorem i2_n1_6 : m_nested_exponents [eN 2, eN 6, eN 6, eN 1] = some (eR ex_0_1_3_4) := isR_ok (by decide +kernel)
theorem tw_n1_6_1 : (m_want_told [eN ex_0_1_3_4.length, eN 1]).isSome = true := by decide +kernel
theorem tw_n1_6_2 : (m_want_told [eN ex_0_1_3_4.length, eN 2]).isSome = true := by decide +kernel
theorem tw_n1_6_3 : (m_want_told [eN ex_0_1_3_4.length, eN 3]).isSome = true := by decide +kernel
theorem tw_n1_6_4 : (m_want_told [eN ex_0_1_3_4.length, eN 4]).isSome = true := by decide +kernel
theorem nfit1 (inn : Nat) (g : Addr) (lst : Sl) (us : List Nat) (h : isLs ((mLc (mRg1 (mBin gMul (mVar 4) (mVar 5))) (.nm 17) (mAndB (mCmpB pNe (mBin gMod (mVar 17) (mBin gAdd (mVar 3) (mC (.int 1)))) (mVar 3)) (mCmpB pLt (mBin gMod (mVar 17) (mVar 4)) (mVar 6))) (mVar 17) [17] [.no, .no, .val (eN 13), .val (eN 2), .val (eN 6), .val (eN 1), .val (eN inn), .no, .no, .no, .no, .no, .no, .no, .no, .no, .no, .no, .no, .no]).map PyData.list) us = true) :
    v4__law_nested_right [.pt g, lst, .val (eN 13), .val (eN 2), .val (eN 6), .val (eN 1), .val (eN inn), .no, .no, .no, .no, .no, .no, .no, .no, .no, .no, .no, .no, .no] = some (.nx [.pt g, lst, .val (eN 13), .val (eN 2), .val (eN 6), .val (eN 1), .val (eN inn), .val (.list (us.map eN)), .no, .no, .no, .no, .no, .no, .no, .no, .no, .no, .no, .no]) :=
  nfit_of h
theorem nc2 : NC 19 2 6 1 nu_19_6_1 sm2 := nc_ok (by decide +kernel)
theorem i1_n2_1 : (m_want_inner [eN 6, eN 1]).isSome = true := by decide +kernel
theorem i2_n2_1 : m_nested_exponents [eN 2, eN 6, eN 1, eN 1] = some (eR ex_0) := isR_ok (by decide +kernel)
theorem ok7 : NumsOk 19 nu_19_6_1 ex_0 := nums_ok (by decide +kernel)
theorem tw_n2_1_1 : (m_want_told [eN ex_0.length, eN 1]).isSome = true := by decide +kernel
theorem i1_n2_2 : (m_want_inner [eN 6, eN 2]).isSome = true := by decide +kernel
theorem i2_n2_2 : m_nested_exponents [eN 2, eN 6, eN 2, eN 1] = some (eR ex_0_1) := isR_ok (by decide +kernel)
theorem tw_n2_2_1 : (m_want_told [eN ex_0_1.length, eN 1]).isSome = true := by decide +kernel
theorem ok8 : NumsOk 19 nu_19_6_1 ex_0_1 := nums_ok (by decide +kernel)
theorem tw_n2_2_2 : (m_want_told [eN ex_0_1.length, eN 2]).isSome = true := by decide +kernel
theorem i1_n2_3 : (m_want_inner [eN 6, eN 3]).isSome = true := by decide +kernel
theorem i2_n2_3 : m_nested_exponents [eN 2, eN 6, eN 3, eN 1] = some (eR ex_0_1) := isR_ok (by decide +kernel)
theorem tw_n2_3_1 : (m_want_told [eN ex_0_1.length, eN 1]).isSome = true := by decide +kernel
theorem tw_n2_3_2 : (m_want_told [eN ex_0_1.length, eN 2]).isSome = true := by decide +kernel
theorem i1_n2_4 : (m_want_inner [eN 6, eN 4]).isSome = true := by decide +kernel
theorem i2_n2_4 : m_nested_exponents [eN 2, eN 6, eN 4, eN 1] = some (eR ex_0_1_3) := isR_ok (by decide +kernel)
theorem tw_n2_4_1 : (m_want_told [eN ex_0_1_3.length, eN 1]).isSome = true := by decide +kernel
theorem tw_n2_4_2 : (m_want_told [eN ex_0_1_3.length, eN 2]).isSome = true := by decide +kernel
theorem ok9 : NumsOk 19 nu_19_6_1 ex_0_1_3 := nums_ok (by decide +kernel)
theorem tw_n2_4_3 : (m_want_told [eN ex_0_1_3.length, eN 3]).isSome = true := by decide +kernel
theorem i1_n2_5 : (m_want_inner [eN 6, eN 5]).isSome = true := by decide +kernel
theorem i2_n2_5 : m_nested_exponents [eN 2, eN 6, eN 5, eN 1] = some (eR ex_0_1_3_4) := isR_ok (by decide +kernel)
theorem tw_n2_5_1 : (m_want_told [eN ex_0_1_3_4.length, eN 1]).isSome = true := by decide +kernel
theorem tw_n2_5_2 : (m_want_told [eN ex_0_1_3_4.length, eN 2]).isSome = true := by decide +kernel
theorem tw_n2_5_3 : (m_want_told [eN ex_0_1_3_4.length, eN 3]).isSome = true := by decide +kernel
theorem ok10 : NumsOk 19 nu_19_6_1 ex_0_1_3_4 := nums_ok (by decide +kernel)
theorem tw_n2_5_4 : (m_want_told [eN ex_0_1_3_4.length, eN 4]).isSome = true := by decide +kernel
theorem i1_n2_6 : (m_want_inner [eN 6, eN 6]).isSome = true := by decide +kernel
theorem i2_n2_6 : m_nested_exponents [eN 2, eN 6, eN 6, eN 1] = some (eR ex_0_1_3_4) := isR_ok (by decide +kernel)
theorem tw_n2_6_1 : (m_want_told [eN ex_0_1_3_4.length, eN 1]).isSome = true := by decide +kernel
theorem tw_n2_6_2 : (m_want_told [eN ex_0_1_3_4.length, eN 2]).isSome = true := by decide +kernel
theorem tw_n2_6_3 : (m_want_told [eN ex_0_1_3_4.length, eN 3]).isSome = true := by decide +kernel
theorem tw_n2_6_4 : (m_want_told [eN ex_0_1_3_4.length, eN 4]).isSome = true := by decide +kernel
theorem nfit2 (inn : Nat) (g : Addr) (lst : Sl) (us : List Nat) (h : isLs ((mLc (mRg1 (mBin gMul (mVar 4) (mVar 5))) (.nm 17) (mAndB (mCmpB pNe (mBin gMod (mVar 17) (mBin gAdd (mVar 3) (mC (.int 1)))) (mVar 3)) (mCmpB pLt (mBin gMod (mVar 17) (mVar 4)) (mVar 6))) (mVar 17) [17] [.no, .no, .val (eN 19), .val (eN 2), .val (eN 6), .val (eN 1), .val (eN inn), .no, .no, .no, .no, .no, .no, .no, .no, .no, .no, .no, .no, .no]).map PyData.list) us = true) :
    v4__law_nested_right [.pt g, lst, .val (eN 19), .val (eN 2), .val (eN 6), .val (eN 1), .val (eN inn), .no, .no, .no, .no, .no, .no, .no, .no, .no, .no, .no, .no, .no] = some (.nx [.pt g, lst, .val (eN 19), .val (eN 2), .val (eN 6), .val (eN 1), .val (eN inn), .val (.list (us.map eN)), .no, .no, .no, .no, .no, .no, .no, .no, .no, .no, .no, .no]) :=
  nfit_of h
theorem nc3 : NC 5 1 4 1 nu_5_4_1 sm3 := nc_ok (by decide +kernel)
theorem i1_n3_1 : (m_want_inner [eN 4, eN 1]).isSome = true := by decide +kernel
theorem i2_n3_1 : m_nested_exponents [eN 1, eN 4, eN 1, eN 1] = some (eR ex_0) := isR_ok (by decide +kernel)
theorem ok11 : NumsOk 5 nu_5_4_1 ex_0 := nums_ok (by decide +kernel)
theorem tw_n3_1_1 : (m_want_told [eN ex_0.length, eN 1]).isSome = true := by decide +kernel
theorem lots4 : lotsB 4 = true := by decide +kernel
theorem i1_n3_2 : (m_want_inner [eN 4, eN 2]).isSome = true := by decide +kernel
theorem i2_n3_2 : m_nested_exponents [eN 1, eN 4, eN 2, eN 1] = some (eR ex_0) := isR_ok (by decide +kernel)
theorem tw_n3_2_1 : (m_want_told [eN ex_0.length, eN 1]).isSome = true := by decide +kernel
theorem i1_n3_3 : (m_want_inner [eN 4, eN 3]).isSome = true := by decide +kernel
theorem i2_n3_3 : m_nested_exponents [eN 1, eN 4, eN 3, eN 1] = some (eR ex_0_2) := isR_ok (by decide +kernel)
theorem tw_n3_3_1 : (m_want_told [eN ex_0_2.length, eN 1]).isSome = true := by decide +kernel
theorem ok12 : NumsOk 5 nu_5_4_1 ex_0_2 := nums_ok (by decide +kernel)
theorem tw_n3_3_2 : (m_want_told [eN ex_0_2.length, eN 2]).isSome = true := by decide +kernel
theorem i1_n3_4 : (m_want_inner [eN 4, eN 4]).isSome = true := by decide +kernel
theorem i2_n3_4 : m_nested_exponents [eN 1, eN 4, eN 4, eN 1] = some (eR ex_0_2) := isR_ok (by decide +kernel)
theorem tw_n3_4_1 : (m_want_told [eN ex_0_2.length, eN 1]).isSome = true := by decide +kernel
theorem tw_n3_4_2 : (m_want_told [eN ex_0_2.length, eN 2]).isSome = true := by decide +kernel
theorem nfit3 (inn : Nat) (g : Addr) (lst : Sl) (us : List Nat) (h : isLs ((mLc (mRg1 (mBin gMul (mVar 4) (mVar 5))) (.nm 17) (mAndB (mCmpB pNe (mBin gMod (mVar 17) (mBin gAdd (mVar 3) (mC (.int 1)))) (mVar 3)) (mCmpB pLt (mBin gMod (mVar 17) (mVar 4)) (mVar 6))) (mVar 17) [17] [.no, .no, .val (eN 5), .val (eN 1), .val (eN 4), .val (eN 1), .val (eN inn), .no, .no, .no, .no, .no, .no, .no, .no, .no, .no, .no, .no, .no]).map PyData.list) us = true) :
    v4__law_nested_right [.pt g, lst, .val (eN 5), .val (eN 1), .val (eN 4), .val (eN 1), .val (eN inn), .no, .no, .no, .no, .no, .no, .no, .no, .no, .no, .no, .no, .no] = some (.nx [.pt g, lst, .val (eN 5), .val (eN 1), .val (eN 4), .val (eN 1), .val (eN inn), .val (.list (us.map eN)), .no, .no, .no, .no, .no, .no, .no, .no, .no, .no, .no, .no]) :=
  nfit_of h
theorem nc4 : NC 17 1 4 2 nu_17_4_2 sm4 := nc_ok (by decide +kernel)
theorem i1_n4_1 : (m_want_inner [eN 4, eN 1]).isSome = true := by decide +kernel
theorem i2_n4_1 : m_nested_exponents [eN 1, eN 4, eN 1, eN 2] = some (eR ex_0_4) := isR_ok (by decide +kernel)
theorem ok13 : NumsOk 17 nu_17_4_2 ex_0 := nums_ok (by decide +kernel)
theorem tw_n4_1_1 : (m_want_told [eN ex_0_4.length, eN 1]).isSome = true := by decide +kernel
theorem lots8 : lotsB 8 = true := by decide +kernel
theorem ok14 : NumsOk 17 nu_17_4_2 ex_0_4 := nums_ok (by decide +kernel)
theorem tw_n4_1_2 : (m_want_told [eN ex_0_4.length, eN 2]).isSome = true := by decide +kernel
theorem i1_n4_2 : (m_want_inner [eN 4, eN 2]).isSome = true := by decide +kernel
theorem i2_n4_2 : m_nested_exponents [eN 1, eN 4, eN 2, eN 2] = some (eR ex_0_4) := isR_ok (by decide +kernel)
theorem tw_n4_2_1 : (m_want_told [eN ex_0_4.length, eN 1]).isSome = true := by decide +kernel
theorem tw_n4_2_2 : (m_want_told [eN ex_0_4.length, eN 2]).isSome = true := by decide +kernel
theorem i1_n4_3 : (m_want_inner [eN 4, eN 3]).isSome = true := by decide +kernel
theorem i2_n4_3 : m_nested_exponents [eN 1, eN 4, eN 3, eN 2] = some (eR ex_0_2_4_6) := isR_ok (by decide +kernel)
theorem tw_n4_3_1 : (m_want_told [eN ex_0_2_4_6.length, eN 1]).isSome = true := by decide +kernel
theorem ok15 : NumsOk 17 nu_17_4_2 ex_0_2 := nums_ok (by decide +kernel)
theorem tw_n4_3_2 : (m_want_told [eN ex_0_2_4_6.length, eN 2]).isSome = true := by decide +kernel
theorem ok16 : NumsOk 17 nu_17_4_2 ex_0_2_4 := nums_ok (by decide +kernel)
theorem tw_n4_3_3 : (m_want_told [eN ex_0_2_4_6.length, eN 3]).isSome = true := by decide +kernel
theorem ok17 : NumsOk 17 nu_17_4_2 ex_0_2_4_6 := nums_ok (by decide +kernel)
theorem tw_n4_3_4 : (m_want_told [eN ex_0_2_4_6.length, eN 4]).isSome = true := by decide +kernel
theorem i1_n4_4 : (m_want_inner [eN 4, eN 4]).isSome = true := by decide +kernel
theorem i2_n4_4 : m_nested_exponents [eN 1, eN 4, eN 4, eN 2] = some (eR ex_0_2_4_6) := isR_ok (by decide +kernel)
theorem tw_n4_4_1 : (m_want_told [eN ex_0_2_4_6.length, eN 1]).isSome = true := by decide +kernel
theorem tw_n4_4_2 : (m_want_told [eN ex_0_2_4_6.length, eN 2]).isSome = true := by decide +kernel
theorem tw_n4_4_3 : (m_want_told [eN ex_0_2_4_6.length, eN 3]).isSome = true := by decide +kernel
theorem tw_n4_4_4 : (m_want_told [eN ex_0_2_4_6.length, eN 4]).isSome = true := by decide +kernel
theorem nfit4 (inn : Nat) (g : Addr) (lst : Sl) (us : List Nat) (h : isLs ((mLc (mRg1 (mBin gMul (mVar 4) (mVar 5))) (.nm 17) (mAndB (mCmpB pNe (mBin gMod (mVar 17) (mBin gAdd (mVar 3) (mC (.int 1)))) (mVar 3)) (mCmpB pLt (mBin gMod (mVar 17) (mVar 4)) (mVar 6))) (mVar 17) [17] [.no, .no, .val (eN 17), .val (eN 1), .val (eN 4), .val (eN 2), .val (eN inn), .no, .no, .no, .no, .no, .no, .no, .no, .no, .no, .no, .no, .no]).map PyData.list) us = true) :
    v4__law_nested_right [.pt g, lst, .val (eN 17), .val (eN 1), .val (eN 4), .val (eN 2), .val (eN inn), .no, .no, .no, .no, .no, .no, .no, .no, .no, .no, .no, .no, .no] = some (.nx [.pt g, lst, .val (eN 17), .val (eN 1), .val (eN 4), .val (eN 2), .val (eN inn), .val (.list (us.map eN)), .no, .no, .no, .no, .no, .no, .no, .no, .no, .no, .no, .no]) :=
  nfit_of h
theorem nc5 : NC 13 1 6 2 nu_13_6_2 sm5 := nc_ok (by decide +kernel)
theorem i1_n5_3 : (m_want_inner [eN 6, eN 3]).isSome = true := by decide +kernel
theorem i2_n5_3 : m_nested_exponents [eN 1, eN 6, eN 3, eN 2] = some (eR ex_0_2_6_8) := isR_ok (by decide +kernel)
theorem ok18 : NumsOk 13 nu_13_6_2 ex_0_2_6 := nums_ok (by decide +kernel)
theorem tw_n5_3_3 : (m_want_told [eN ex_0_2_6_8.length, eN 3]).isSome = true := by decide +kernel
theorem ok19 : NumsOk 13 nu_13_6_2 ex_0_2_6_8 := nums_ok (by decide +kernel)
theorem tw_n5_3_4 : (m_want_told [eN ex_0_2_6_8.length, eN 4]).isSome = true := by decide +kernel
theorem nfit5 (inn : Nat) (g : Addr) (lst : Sl) (us : List Nat) (h : isLs ((mLc (mRg1 (mBin gMul (mVar 4) (mVar 5))) (.nm 17) (mAndB (mCmpB pNe (mBin gMod (mVar 17) (mBin gAdd (mVar 3) (mC (.int 1)))) (mVar 3)) (mCmpB pLt (mBin gMod (mVar 17) (mVar 4)) (mVar 6))) (mVar 17) [17] [.no, .no, .val (eN 13), .val (eN 1), .val (eN 6), .val (eN 2), .val (eN inn), .no, .no, .no, .no, .no, .no, .no, .no, .no, .no, .no, .no, .no]).map PyData.list) us = true) :
    v4__law_nested_right [.pt g, lst, .val (eN 13), .val (eN 1), .val (eN 6), .val (eN 2), .val (eN inn), .no, .no, .no, .no, .no, .no, .no, .no, .no, .no, .no, .no, .no] = some (.nx [.pt g, lst, .val (eN 13), .val (eN 1), .val (eN 6), .val (eN 2), .val (eN inn), .val (.list (us.map eN)), .no, .no, .no, .no, .no, .no, .no, .no, .no, .no, .no, .no]) :=
  nfit_of h
theorem nc6 : NC 13 1 6 2 nu_13_6_2 sm6 := nc_ok (by decide +kernel)
theorem i1_n6_4 : (m_want_inner [eN 6, eN 4]).isSome = true := by decide +kernel
theorem i2_n6_4 : m_nested_exponents [eN 1, eN 6, eN 4, eN 2] = some (eR ex_0_2_6_8) := isR_ok (by decide +kernel)
theorem tw_n6_4_3 : (m_want_told [eN ex_0_2_6_8.length, eN 3]).isSome = true := by decide +kernel
theorem tw_n6_4_4 : (m_want_told [eN ex_0_2_6_8.length, eN 4]).isSome = true := by decide +kernel
theorem nfit6 (inn : Nat) (g : Addr) (lst : Sl) (us : List Nat) (h : isLs ((mLc (mRg1 (mBin gMul (mVar 4) (mVar 5))) (.nm 17) (mAndB (mCmpB pNe (mBin gMod (mVar 17) (mBin gAdd (mVar 3) (mC (.int 1)))) (mVar 3)) (mCmpB pLt (mBin gMod (mVar 17) (mVar 4)) (mVar 6))) (mVar 17) [17] [.no, .no, .val (eN 13), .val (eN 1), .val (eN 6), .val (eN 2), .val (eN inn), .no, .no, .no, .no, .no, .no, .no, .no, .no, .no, .no, .no, .no]).map PyData.list) us = true) :
    v4__law_nested_right [.pt g, lst, .val (eN 13), .val (eN 1), .val (eN 6), .val (eN 2), .val (eN inn), .no, .no, .no, .no, .no, .no, .no, .no, .no, .no, .no, .no, .no] = some (.nx [.pt g, lst, .val (eN 13), .val (eN 1), .val (eN 6), .val (eN 2), .val (eN inn), .val (.list (us.map eN)), .no, .no, .no, .no, .no, .no, .no, .no, .no, .no, .no, .no]) :=
  nfit_of h
theorem nc7 : NC 31 2 6 2 nu_31_6_2 sm7 := nc_ok (by decide +kernel)
theorem i1_n7_4 : (m_want_inner [eN 6, eN 4]).isSome = true := by decide +kernel
theorem i2_n7_4 : m_nested_exponents [eN 2, eN 6, eN 4, eN 2] = some (eR ex_0_1_3_6_7_9) := isR_ok (by decide +kernel)
theorem ok20 : NumsOk 31 nu_31_6_2 ex_0_1_3 := nums_ok (by decide +kernel)
theorem tw_n7_4_3 : (m_want_told [eN ex_0_1_3_6_7_9.length, eN 3]).isSome = true := by decide +kernel
theorem ok21 : NumsOk 31 nu_31_6_2 ex_0_1_3_6 := nums_ok (by decide +kernel)
theorem tw_n7_4_4 : (m_want_told [eN ex_0_1_3_6_7_9.length, eN 4]).isSome = true := by decide +kernel
theorem ok22 : NumsOk 31 nu_31_6_2 ex_0_1_3_6_7 := nums_ok (by decide +kernel)
theorem tw_n7_4_5 : (m_want_told [eN ex_0_1_3_6_7_9.length, eN 5]).isSome = true := by decide +kernel
theorem lots12 : lotsB 12 = true := by decide +kernel
theorem ok23 : NumsOk 31 nu_31_6_2 ex_0_1_3_6_7_9 := nums_ok (by decide +kernel)
theorem tw_n7_4_6 : (m_want_told [eN ex_0_1_3_6_7_9.length, eN 6]).isSome = true := by decide +kernel
theorem nfit7 (inn : Nat) (g : Addr) (lst : Sl) (us : List Nat) (h : isLs ((mLc (mRg1 (mBin gMul (mVar 4) (mVar 5))) (.nm 17) (mAndB (mCmpB pNe (mBin gMod (mVar 17) (mBin gAdd (mVar 3) (mC (.int 1)))) (mVar 3)) (mCmpB pLt (mBin gMod (mVar 17) (mVar 4)) (mVar 6))) (mVar 17) [17] [.no, .no, .val (eN 31), .val (eN 2), .val (eN 6), .val (eN 2), .val (eN inn), .no, .no, .no, .no, .no, .no, .no, .no, .no, .no, .no, .no, .no]).map PyData.list) us = true) :
    v4__law_nested_right [.pt g, lst, .val (eN 31), .val (eN 2), .val (eN 6), .val (eN 2), .val (eN inn), .no, .no, .no, .no, .no, .no, .no, .no, .no, .no, .no, .no, .no] = some (.nx [.pt g, lst, .val (eN 31), .val (eN 2), .val (eN 6), .val (eN 2), .val (eN inn), .val (.list (us.map eN)), .no, .no, .no, .no, .no, .no, .no, .no, .no, .no, .no, .no]) :=
  nfit_of h
theorem nc8 : NC 37 1 6 2 nu_37_6_2 sm8 := nc_ok (by decide +kernel)
theorem i1_n8_3 : (m_want_inner [eN 6, eN 3]).isSome = true := by decide +kernel
theorem i2_n8_3 : m_nested_exponents [eN 1, eN 6, eN 3, eN 2] = some (eR ex_0_2_6_8) := isR_ok (by decide +kernel)
theorem ok24 : NumsOk 37 nu_37_6_2 ex_0_2_6 := nums_ok (by decide +kernel)
theorem tw_n8_3_3 : (m_want_told [eN ex_0_2_6_8.length, eN 3]).isSome = true := by decide +kernel
theorem ok25 : NumsOk 37 nu_37_6_2 ex_0_2_6_8 := nums_ok (by decide +kernel)
theorem tw_n8_3_4 : (m_want_told [eN ex_0_2_6_8.length, eN 4]).isSome = true := by decide +kernel
theorem nfit8 (inn : Nat) (g : Addr) (lst : Sl) (us : List Nat) (h : isLs ((mLc (mRg1 (mBin gMul (mVar 4) (mVar 5))) (.nm 17) (mAndB (mCmpB pNe (mBin gMod (mVar 17) (mBin gAdd (mVar 3) (mC (.int 1)))) (mVar 3)) (mCmpB pLt (mBin gMod (mVar 17) (mVar 4)) (mVar 6))) (mVar 17) [17] [.no, .no, .val (eN 37), .val (eN 1), .val (eN 6), .val (eN 2), .val (eN inn), .no, .no, .no, .no, .no, .no, .no, .no, .no, .no, .no, .no, .no]).map PyData.list) us = true) :
    v4__law_nested_right [.pt g, lst, .val (eN 37), .val (eN 1), .val (eN 6), .val (eN 2), .val (eN inn), .no, .no, .no, .no, .no, .no, .no, .no, .no, .no, .no, .no, .no] = some (.nx [.pt g, lst, .val (eN 37), .val (eN 1), .val (eN 6), .val (eN 2), .val (eN inn), .val (.list (us.map eN)), .no, .no, .no, .no, .no, .no, .no, .no, .no, .no, .no, .no]) :=
  nfit_of h
theorem nc9 : NC 29 3 4 2 nu_29_4_2 sm9 := nc_ok (by decide +kernel)
theorem i1_n9_1 : (m_want_inner [eN 4, eN 1]).isSome = true := by decide +kernel
theorem i2_n9_1 : m_nested_exponents [eN 3, eN 4, eN 1, eN 2] = some (eR ex_0_4) := isR_ok (by decide +kernel)
theorem ok26 : NumsOk 29 nu_29_4_2 ex_0 := nums_ok (by decide +kernel)
theorem tw_n9_1_1 : (m_want_told [eN ex_0_4.length, eN 1]).isSome = true := by decide +kernel
theorem ok27 : NumsOk 29 nu_29_4_2 ex_0_4 := nums_ok (by decide +kernel)
theorem tw_n9_1_2 : (m_want_told [eN ex_0_4.length, eN 2]).isSome = true := by decide +kernel
theorem i1_n9_2 : (m_want_inner [eN 4, eN 2]).isSome = true := by decide +kernel
theorem i2_n9_2 : m_nested_exponents [eN 3, eN 4, eN 2, eN 2] = some (eR ex_0_1_4_5) := isR_ok (by decide +kernel)
theorem tw_n9_2_1 : (m_want_told [eN ex_0_1_4_5.length, eN 1]).isSome = true := by decide +kernel
theorem ok28 : NumsOk 29 nu_29_4_2 ex_0_1 := nums_ok (by decide +kernel)
theorem tw_n9_2_2 : (m_want_told [eN ex_0_1_4_5.length, eN 2]).isSome = true := by decide +kernel
theorem ok29 : NumsOk 29 nu_29_4_2 ex_0_1_4 := nums_ok (by decide +kernel)
theorem tw_n9_2_3 : (m_want_told [eN ex_0_1_4_5.length, eN 3]).isSome = true := by decide +kernel
theorem ok30 : NumsOk 29 nu_29_4_2 ex_0_1_4_5 := nums_ok (by decide +kernel)
theorem tw_n9_2_4 : (m_want_told [eN ex_0_1_4_5.length, eN 4]).isSome = true := by decide +kernel
theorem i1_n9_3 : (m_want_inner [eN 4, eN 3]).isSome = true := by decide +kernel
theorem i2_n9_3 : m_nested_exponents [eN 3, eN 4, eN 3, eN 2] = some (eR ex_0_1_2_4_5_6) := isR_ok (by decide +kernel)
theorem tw_n9_3_1 : (m_want_told [eN ex_0_1_2_4_5_6.length, eN 1]).isSome = true := by decide +kernel
theorem tw_n9_3_2 : (m_want_told [eN ex_0_1_2_4_5_6.length, eN 2]).isSome = true := by decide +kernel
theorem ok31 : NumsOk 29 nu_29_4_2 ex_0_1_2 := nums_ok (by decide +kernel)
theorem tw_n9_3_3 : (m_want_told [eN ex_0_1_2_4_5_6.length, eN 3]).isSome = true := by decide +kernel
theorem ok32 : NumsOk 29 nu_29_4_2 ex_0_1_2_4 := nums_ok (by decide +kernel)
theorem tw_n9_3_4 : (m_want_told [eN ex_0_1_2_4_5_6.length, eN 4]).isSome = true := by decide +kernel
theorem ok33 : NumsOk 29 nu_29_4_2 ex_0_1_2_4_5 := nums_ok (by decide +kernel)
theorem tw_n9_3_5 : (m_want_told [eN ex_0_1_2_4_5_6.length, eN 5]).isSome = true := by decide +kernel
theorem ok34 : NumsOk 29 nu_29_4_2 ex_0_1_2_4_5_6 := nums_ok (by decide +kernel)
theorem tw_n9_3_6 : (m_want_told [eN ex_0_1_2_4_5_6.length, eN 6]).isSome = true := by decide +kernel
theorem i1_n9_4 : (m_want_inner [eN 4, eN 4]).isSome = true := by decide +kernel
theorem i2_n9_4 : m_nested_exponents [eN 3, eN 4, eN 4, eN 2] = some (eR ex_0_1_2_4_5_6) := isR_ok (by decide +kernel)
theorem tw_n9_4_1 : (m_want_told [eN ex_0_1_2_4_5_6.length, eN 1]).isSome = true := by decide +kernel
theorem tw_n9_4_2 : (m_want_told [eN ex_0_1_2_4_5_6.length, eN 2]).isSome = true := by decide +kernel
theorem tw_n9_4_3 : (m_want_told [eN ex_0_1_2_4_5_6.length, eN 3]).isSome = true := by decide +kernel
theorem tw_n9_4_4 : (m_want_told [eN ex_0_1_2_4_5_6.length, eN 4]).isSome = true := by decide +kernel
theorem tw_n9_4_5 : (m_want_told [eN ex_0_1_2_4_5_6.length, eN 5]).isSome = true := by decide +kernel
theorem tw_n9_4_6 : (m_want_told [eN ex_0_1_2_4_5_6.length, eN 6]).isSome = true := by decide +kernel
theorem nfit9 (inn : Nat) (g : Addr) (lst : Sl) (us : List Nat) (h : isLs ((mLc (mRg1 (mBin gMul (mVar 4) (mVar 5))) (.nm 17) (mAndB (mCmpB pNe (mBin gMod (mVar 17) (mBin gAdd (mVar 3) (mC (.int 1)))) (mVar 3)) (mCmpB pLt (mBin gMod (mVar 17) (mVar 4)) (mVar 6))) (mVar 17) [17] [.no, .no, .val (eN 29), .val (eN 3), .val (eN 4), .val (eN 2), .val (eN inn), .no, .no, .no, .no, .no, .no, .no, .no, .no, .no, .no, .no, .no]).map PyData.list) us = true) :
    v4__law_nested_right [.pt g, lst, .val (eN 29), .val (eN 3), .val (eN 4), .val (eN 2), .val (eN inn), .no, .no, .no, .no, .no, .no, .no, .no, .no, .no, .no, .no, .no] = some (.nx [.pt g, lst, .val (eN 29), .val (eN 3), .val (eN 4), .val (eN 2), .val (eN inn), .val (.list (us.map eN)), .no, .no, .no, .no, .no, .no, .no, .no, .no, .no, .no, .no]) :=
  nfit_of h
theorem cc0 : CC 7 2 3 1 nu_7_6_1 fi0 se0 := cc_ok (by decide +kernel)
theorem i2_c0 : m_crossed_exponents [eN 2, eN 3, eN 1] = some (eR ex_0_4) := isR_ok (by decide +kernel)
theorem tw_c0_1 : (m_want_told [eN ex_0_4.length, eN 1]).isSome = true := by decide +kernel
theorem ok35 : NumsOk 7 nu_7_6_1 ex_0_4 := nums_ok (by decide +kernel)
theorem tw_c0_2 : (m_want_told [eN ex_0_4.length, eN 2]).isSome = true := by decide +kernel
theorem cfit0 (g : Addr) (lst : Sl) (us : List Nat) (h : isLs ((mLc (mRg1 (mVar 6)) (.nm 19) (mAndB (mCmpB pNe (mBin gMod (mVar 19) (mVar 3)) (mBin Ly.gSub (mVar 3) (mC (.int 1)))) (mCmpB pNe (mBin gMod (mVar 19) (mVar 4)) (mBin Ly.gSub (mVar 4) (mC (.int 1))))) (mVar 19) [19] [.no, .no, .val (eN 7), .val (eN 2), .val (eN 3), .val (eN 1), .val (eN 6), .no, .no, .no, .no, .no, .no, .no, .no, .no, .no, .no, .no, .no, .no]).map PyData.list) us = true) :
    v3__law_crossed_right [.pt g, lst, .val (eN 7), .val (eN 2), .val (eN 3), .val (eN 1), .val (eN 6), .no, .no, .no, .no, .no, .no, .no, .no, .no, .no, .no, .no, .no, .no] = some (.nx [.pt g, lst, .val (eN 7), .val (eN 2), .val (eN 3), .val (eN 1), .val (eN 6), .val (.list (us.map eN)), .no, .no, .no, .no, .no, .no, .no, .no, .no, .no, .no, .no, .no]) :=
  cfit_of h
theorem cc1 : CC 13 3 2 2 nu_13_6_2 fi1 se1 := cc_ok (by decide +kernel)
theorem i2_c1 : m_crossed_exponents [eN 3, eN 2, eN 2] = some (eR ex_0_4_6_10) := isR_ok (by decide +kernel)
theorem ok36 : NumsOk 13 nu_13_6_2 ex_0_4_6 := nums_ok (by decide +kernel)
theorem tw_c1_3 : (m_want_told [eN ex_0_4_6_10.length, eN 3]).isSome = true := by decide +kernel
theorem ok37 : NumsOk 13 nu_13_6_2 ex_0_4_6_10 := nums_ok (by decide +kernel)
theorem tw_c1_4 : (m_want_told [eN ex_0_4_6_10.length, eN 4]).isSome = true := by decide +kernel
theorem cfit1 (g : Addr) (lst : Sl) (us : List Nat) (h : isLs ((mLc (mRg1 (mVar 6)) (.nm 19) (mAndB (mCmpB pNe (mBin gMod (mVar 19) (mVar 3)) (mBin Ly.gSub (mVar 3) (mC (.int 1)))) (mCmpB pNe (mBin gMod (mVar 19) (mVar 4)) (mBin Ly.gSub (mVar 4) (mC (.int 1))))) (mVar 19) [19] [.no, .no, .val (eN 13), .val (eN 3), .val (eN 2), .val (eN 2), .val (eN 12), .no, .no, .no, .no, .no, .no, .no, .no, .no, .no, .no, .no, .no, .no]).map PyData.list) us = true) :
    v3__law_crossed_right [.pt g, lst, .val (eN 13), .val (eN 3), .val (eN 2), .val (eN 2), .val (eN 12), .no, .no, .no, .no, .no, .no, .no, .no, .no, .no, .no, .no, .no, .no] = some (.nx [.pt g, lst, .val (eN 13), .val (eN 3), .val (eN 2), .val (eN 2), .val (eN 12), .val (.list (us.map eN)), .no, .no, .no, .no, .no, .no, .no, .no, .no, .no, .no, .no, .no]) :=
  cfit_of h
theorem cc2 : CC 13 3 4 1 nu_13_12_1 fi2 se2 := cc_ok (by decide +kernel)
theorem i2_c2 : m_crossed_exponents [eN 3, eN 4, eN 1] = some (eR ex_0_1_4_6_9_10) := isR_ok (by decide +kernel)
theorem ok38 : NumsOk 13 nu_13_12_1 ex_0_1_4 := nums_ok (by decide +kernel)
theorem tw_c2_3 : (m_want_told [eN ex_0_1_4_6_9_10.length, eN 3]).isSome = true := by decide +kernel
theorem ok39 : NumsOk 13 nu_13_12_1 ex_0_1_4_6 := nums_ok (by decide +kernel)
theorem tw_c2_4 : (m_want_told [eN ex_0_1_4_6_9_10.length, eN 4]).isSome = true := by decide +kernel
theorem ok40 : NumsOk 13 nu_13_12_1 ex_0_1_4_6_9 := nums_ok (by decide +kernel)
theorem tw_c2_5 : (m_want_told [eN ex_0_1_4_6_9_10.length, eN 5]).isSome = true := by decide +kernel
theorem ok41 : NumsOk 13 nu_13_12_1 ex_0_1_4_6_9_10 := nums_ok (by decide +kernel)
theorem tw_c2_6 : (m_want_told [eN ex_0_1_4_6_9_10.length, eN 6]).isSome = true := by decide +kernel
theorem cfit2 (g : Addr) (lst : Sl) (us : List Nat) (h : isLs ((mLc (mRg1 (mVar 6)) (.nm 19) (mAndB (mCmpB pNe (mBin gMod (mVar 19) (mVar 3)) (mBin Ly.gSub (mVar 3) (mC (.int 1)))) (mCmpB pNe (mBin gMod (mVar 19) (mVar 4)) (mBin Ly.gSub (mVar 4) (mC (.int 1))))) (mVar 19) [19] [.no, .no, .val (eN 13), .val (eN 3), .val (eN 4), .val (eN 1), .val (eN 12), .no, .no, .no, .no, .no, .no, .no, .no, .no, .no, .no, .no, .no, .no]).map PyData.list) us = true) :
    v3__law_crossed_right [.pt g, lst, .val (eN 13), .val (eN 3), .val (eN 4), .val (eN 1), .val (eN 12), .no, .no, .no, .no, .no, .no, .no, .no, .no, .no, .no, .no, .no, .no] = some (.nx [.pt g, lst, .val (eN 13), .val (eN 3), .val (eN 4), .val (eN 1), .val (eN 12), .val (.list (us.map eN)), .no, .no, .no, .no, .no, .no, .no, .no, .no, .no, .no, .no, .no]) :=
  cfit_of h
theorem cc3 : CC 11 2 5 1 nu_11_10_1 fi3 se3 := cc_ok (by decide +kernel)
theorem i2_c3 : m_crossed_exponents [eN 2, eN 5, eN 1] = some (eR ex_0_2_6_8) := isR_ok (by decide +kernel)
theorem ok42 : NumsOk 11 nu_11_10_1 ex_0 := nums_ok (by decide +kernel)
theorem tw_c3_1 : (m_want_told [eN ex_0_2_6_8.length, eN 1]).isSome = true := by decide +kernel
theorem lots10 : lotsB 10 = true := by decide +kernel
theorem ok43 : NumsOk 11 nu_11_10_1 ex_0_2 := nums_ok (by decide +kernel)
theorem tw_c3_2 : (m_want_told [eN ex_0_2_6_8.length, eN 2]).isSome = true := by decide +kernel
theorem ok44 : NumsOk 11 nu_11_10_1 ex_0_2_6 := nums_ok (by decide +kernel)
theorem tw_c3_3 : (m_want_told [eN ex_0_2_6_8.length, eN 3]).isSome = true := by decide +kernel
theorem ok45 : NumsOk 11 nu_11_10_1 ex_0_2_6_8 := nums_ok (by decide +kernel)
theorem tw_c3_4 : (m_want_told [eN ex_0_2_6_8.length, eN 4]).isSome = true := by decide +kernel
theorem cfit3 (g : Addr) (lst : Sl) (us : List Nat) (h : isLs ((mLc (mRg1 (mVar 6)) (.nm 19) (mAndB (mCmpB pNe (mBin gMod (mVar 19) (mVar 3)) (mBin Ly.gSub (mVar 3) (mC (.int 1)))) (mCmpB pNe (mBin gMod (mVar 19) (mVar 4)) (mBin Ly.gSub (mVar 4) (mC (.int 1))))) (mVar 19) [19] [.no, .no, .val (eN 11), .val (eN 2), .val (eN 5), .val (eN 1), .val (eN 10), .no, .no, .no, .no, .no, .no, .no, .no, .no, .no, .no, .no, .no, .no]).map PyData.list) us = true) :
    v3__law_crossed_right [.pt g, lst, .val (eN 11), .val (eN 2), .val (eN 5), .val (eN 1), .val (eN 10), .no, .no, .no, .no, .no, .no, .no, .no, .no, .no, .no, .no, .no, .no] = some (.nx [.pt g, lst, .val (eN 11), .val (eN 2), .val (eN 5), .val (eN 1), .val (eN 10), .val (.list (us.map eN)), .no, .no, .no, .no, .no, .no, .no, .no, .no, .no, .no, .no, .no]) :=
  cfit_of h
theorem cc4 : CC 31 2 3 2 nu_31_6_2 fi4 se4 := cc_ok (by decide +kernel)
theorem i2_c4 : m_crossed_exponents [eN 2, eN 3, eN 2] = some (eR ex_0_4_6_10) := isR_ok (by decide +kernel)
theorem ok46 : NumsOk 31 nu_31_6_2 ex_0_4_6 := nums_ok (by decide +kernel)
theorem tw_c4_3 : (m_want_told [eN ex_0_4_6_10.length, eN 3]).isSome = true := by decide +kernel
theorem ok47 : NumsOk 31 nu_31_6_2 ex_0_4_6_10 := nums_ok (by decide +kernel)
theorem tw_c4_4 : (m_want_told [eN ex_0_4_6_10.length, eN 4]).isSome = true := by decide +kernel
theorem cfit4 (g : Addr) (lst : Sl) (us : List Nat) (h : isLs ((mLc (mRg1 (mVar 6)) (.nm 19) (mAndB (mCmpB pNe (mBin gMod (mVar 19) (mVar 3)) (mBin Ly.gSub (mVar 3) (mC (.int 1)))) (mCmpB pNe (mBin gMod (mVar 19) (mVar 4)) (mBin Ly.gSub (mVar 4) (mC (.int 1))))) (mVar 19) [19] [.no, .no, .val (eN 31), .val (eN 2), .val (eN 3), .val (eN 2), .val (eN 12), .no, .no, .no, .no, .no, .no, .no, .no, .no, .no, .no, .no, .no, .no]).map PyData.list) us = true) :
    v3__law_crossed_right [.pt g, lst, .val (eN 31), .val (eN 2), .val (eN 3), .val (eN 2), .val (eN 12), .no, .no, .no, .no, .no, .no, .no, .no, .no, .no, .no, .no, .no, .no] = some (.nx [.pt g, lst, .val (eN 31), .val (eN 2), .val (eN 3), .val (eN 2), .val (eN 12), .val (.list (us.map eN)), .no, .no, .no, .no, .no, .no, .no, .no, .no, .no, .no, .no, .no]) :=
  cfit_of h
theorem cc5 : CC 31 5 2 1 nu_31_10_1 fi5 se5 := cc_ok (by decide +kernel)
theorem i2_c5 : m_crossed_exponents [eN 5, eN 2, eN 1] = some (eR ex_0_2_6_8) := isR_ok (by decide +kernel)
theorem ok48 : NumsOk 31 nu_31_10_1 ex_0 := nums_ok (by decide +kernel)
theorem tw_c5_1 : (m_want_told [eN ex_0_2_6_8.length, eN 1]).isSome = true := by decide +kernel
theorem ok49 : NumsOk 31 nu_31_10_1 ex_0_2 := nums_ok (by decide +kernel)
theorem tw_c5_2 : (m_want_told [eN ex_0_2_6_8.length, eN 2]).isSome = true := by decide +kernel
theorem ok50 : NumsOk 31 nu_31_10_1 ex_0_2_6 := nums_ok (by decide +kernel)
theorem tw_c5_3 : (m_want_told [eN ex_0_2_6_8.length, eN 3]).isSome = true := by decide +kernel
theorem ok51 : NumsOk 31 nu_31_10_1 ex_0_2_6_8 := nums_ok (by decide +kernel)
theorem tw_c5_4 : (m_want_told [eN ex_0_2_6_8.length, eN 4]).isSome = true := by decide +kernel
theorem cfit5 (g : Addr) (lst : Sl) (us : List Nat) (h : isLs ((mLc (mRg1 (mVar 6)) (.nm 19) (mAndB (mCmpB pNe (mBin gMod (mVar 19) (mVar 3)) (mBin Ly.gSub (mVar 3) (mC (.int 1)))) (mCmpB pNe (mBin gMod (mVar 19) (mVar 4)) (mBin Ly.gSub (mVar 4) (mC (.int 1))))) (mVar 19) [19] [.no, .no, .val (eN 31), .val (eN 5), .val (eN 2), .val (eN 1), .val (eN 10), .no, .no, .no, .no, .no, .no, .no, .no, .no, .no, .no, .no, .no, .no]).map PyData.list) us = true) :
    v3__law_crossed_right [.pt g, lst, .val (eN 31), .val (eN 5), .val (eN 2), .val (eN 1), .val (eN 10), .no, .no, .no, .no, .no, .no, .no, .no, .no, .no, .no, .no, .no, .no] = some (.nx [.pt g, lst, .val (eN 31), .val (eN 5), .val (eN 2), .val (eN 1), .val (eN 10), .val (.list (us.map eN)), .no, .no, .no, .no, .no, .no, .no, .no, .no, .no, .no, .no, .no]) :=
  cfit_of h
theorem cc6 : CC 19 3 2 1 nu_19_6_1 fi6 se6 := cc_ok (by decide +kernel)
theorem i2_c6 : m_crossed_exponents [eN 3, eN 2, eN 1] = some (eR ex_0_4) := isR_ok (by decide +kernel)
theorem tw_c6_1 : (m_want_told [eN ex_0_4.length, eN 1]).isSome = true := by decide +kernel
theorem ok52 : NumsOk 19 nu_19_6_1 ex_0_4 := nums_ok (by decide +kernel)
theorem tw_c6_2 : (m_want_told [eN ex_0_4.length, eN 2]).isSome = true := by decide +kernel
theorem cfit6 (g : Addr) (lst : Sl) (us : List Nat) (h : isLs ((mLc (mRg1 (mVar 6)) (.nm 19) (mAndB (mCmpB pNe (mBin gMod (mVar 19) (mVar 3)) (mBin Ly.gSub (mVar 3) (mC (.int 1)))) (mCmpB pNe (mBin gMod (mVar 19) (mVar 4)) (mBin Ly.gSub (mVar 4) (mC (.int 1))))) (mVar 19) [19] [.no, .no, .val (eN 19), .val (eN 3), .val (eN 2), .val (eN 1), .val (eN 6), .no, .no, .no, .no, .no, .no, .no, .no, .no, .no, .no, .no, .no, .no]).map PyData.list) us = true) :
    v3__law_crossed_right [.pt g, lst, .val (eN 19), .val (eN 3), .val (eN 2), .val (eN 1), .val (eN 6), .no, .no, .no, .no, .no, .no, .no, .no, .no, .no, .no, .no, .no, .no] = some (.nx [.pt g, lst, .val (eN 19), .val (eN 3), .val (eN 2), .val (eN 1), .val (eN 6), .val (.list (us.map eN)), .no, .no, .no, .no, .no, .no, .no, .no, .no, .no, .no, .no, .no]) :=
  cfit_of h
end Pl
set_option Elab.async false
set_option linter.all false
set_option maxRecDepth 100000
set_option maxHeartbeats 0
namespace Pl
open PySem Ly Mf L2
theorem wb0 : (m_want_book [eB 7 nu_7_6_1.length (bkS 7 nu_7_6_1 ex_0), .str "book"]).isSome = true := by decide +kernel
theorem wb1 : (m_want_book [eB 7 nu_7_6_1.length (bkS 7 nu_7_6_1 ex_0_2), .str "book"]).isSome = true := by decide +kernel
theorem wb2 : (m_want_book [eB 7 nu_7_6_1.length (bkS 7 nu_7_6_1 ex_0_2_4), .str "book"]).isSome = true := by decide +kernel
theorem wb3 : (m_want_book [eB 13 nu_13_6_1.length (bkS 13 nu_13_6_1 ex_0), .str "book"]).isSome = true := by decide +kernel
theorem wb4 : (m_want_book [eB 13 nu_13_6_1.length (bkS 13 nu_13_6_1 ex_0_1), .str "book"]).isSome = true := by decide +kernel
theorem wb5 : (m_want_book [eB 13 nu_13_6_1.length (bkS 13 nu_13_6_1 ex_0_1_3), .str "book"]).isSome = true := by decide +kernel
theorem wb6 : (m_want_book [eB 13 nu_13_6_1.length (bkS 13 nu_13_6_1 ex_0_1_3_4), .str "book"]).isSome = true := by decide +kernel
theorem wb7 : (m_want_book [eB 19 nu_19_6_1.length (bkS 19 nu_19_6_1 ex_0), .str "book"]).isSome = true := by decide +kernel
theorem wb8 : (m_want_book [eB 19 nu_19_6_1.length (bkS 19 nu_19_6_1 ex_0_1), .str "book"]).isSome = true := by decide +kernel
theorem wb9 : (m_want_book [eB 19 nu_19_6_1.length (bkS 19 nu_19_6_1 ex_0_1_3), .str "book"]).isSome = true := by decide +kernel
theorem wb10 : (m_want_book [eB 19 nu_19_6_1.length (bkS 19 nu_19_6_1 ex_0_1_3_4), .str "book"]).isSome = true := by decide +kernel
theorem wb11 : (m_want_book [eB 5 nu_5_4_1.length (bkS 5 nu_5_4_1 ex_0), .str "book"]).isSome = true := by decide +kernel
theorem wb12 : (m_want_book [eB 5 nu_5_4_1.length (bkS 5 nu_5_4_1 ex_0_2), .str "book"]).isSome = true := by decide +kernel
theorem wb13 : (m_want_book [eB 17 nu_17_4_2.length (bkS 17 nu_17_4_2 ex_0), .str "book"]).isSome = true := by decide +kernel
theorem wb14 : (m_want_book [eB 17 nu_17_4_2.length (bkS 17 nu_17_4_2 ex_0_4), .str "book"]).isSome = true := by decide +kernel
theorem wb15 : (m_want_book [eB 17 nu_17_4_2.length (bkS 17 nu_17_4_2 ex_0_2), .str "book"]).isSome = true := by decide +kernel
theorem wb16 : (m_want_book [eB 17 nu_17_4_2.length (bkS 17 nu_17_4_2 ex_0_2_4), .str "book"]).isSome = true := by decide +kernel
theorem wb17 : (m_want_book [eB 17 nu_17_4_2.length (bkS 17 nu_17_4_2 ex_0_2_4_6), .str "book"]).isSome = true := by decide +kernel
theorem wb18 : (m_want_book [eB 31 nu_31_6_2.length (bkS 31 nu_31_6_2 ex_0_1_3_6_7), .str "book"]).isSome = true := by decide +kernel
theorem wb19 : (m_want_book [eB 31 nu_31_6_2.length (bkS 31 nu_31_6_2 ex_0_1_3_6_7_9), .str "book"]).isSome = true := by decide +kernel
theorem wb20 : (m_want_book [eB 29 nu_29_4_2.length (bkS 29 nu_29_4_2 ex_0), .str "book"]).isSome = true := by decide +kernel
theorem wb21 : (m_want_book [eB 29 nu_29_4_2.length (bkS 29 nu_29_4_2 ex_0_4), .str "book"]).isSome = true := by decide +kernel
theorem wb22 : (m_want_book [eB 29 nu_29_4_2.length (bkS 29 nu_29_4_2 ex_0_1), .str "book"]).isSome = true := by decide +kernel
theorem wb23 : (m_want_book [eB 29 nu_29_4_2.length (bkS 29 nu_29_4_2 ex_0_1_4), .str "book"]).isSome = true := by decide +kernel
theorem wb24 : (m_want_book [eB 29 nu_29_4_2.length (bkS 29 nu_29_4_2 ex_0_1_4_5), .str "book"]).isSome = true := by decide +kernel
theorem wb25 : (m_want_book [eB 29 nu_29_4_2.length (bkS 29 nu_29_4_2 ex_0_1_2), .str "book"]).isSome = true := by decide +kernel
theorem wb26 : (m_want_book [eB 29 nu_29_4_2.length (bkS 29 nu_29_4_2 ex_0_1_2_4), .str "book"]).isSome = true := by decide +kernel
theorem wb27 : (m_want_book [eB 29 nu_29_4_2.length (bkS 29 nu_29_4_2 ex_0_1_2_4_5), .str "book"]).isSome = true := by decide +kernel
theorem wb28 : (m_want_book [eB 29 nu_29_4_2.length (bkS 29 nu_29_4_2 ex_0_1_2_4_5_6), .str "book"]).isSome = true := by decide +kernel
theorem wb29 : (m_want_book [eB 7 nu_7_6_1.length (bkS 7 nu_7_6_1 ex_0_4), .str "book"]).isSome = true := by decide +kernel
theorem wb30 : (m_want_book [eB 13 nu_13_12_1.length (bkS 13 nu_13_12_1 ex_0_1_4_6_9), .str "book"]).isSome = true := by decide +kernel
theorem wb31 : (m_want_book [eB 13 nu_13_12_1.length (bkS 13 nu_13_12_1 ex_0_1_4_6_9_10), .str "book"]).isSome = true := by decide +kernel
theorem wb32 : (m_want_book [eB 11 nu_11_10_1.length (bkS 11 nu_11_10_1 ex_0), .str "book"]).isSome = true := by decide +kernel
theorem wb33 : (m_want_book [eB 11 nu_11_10_1.length (bkS 11 nu_11_10_1 ex_0_2), .str "book"]).isSome = true := by decide +kernel
theorem wb34 : (m_want_book [eB 11 nu_11_10_1.length (bkS 11 nu_11_10_1 ex_0_2_6), .str "book"]).isSome = true := by decide +kernel
theorem wb35 : (m_want_book [eB 11 nu_11_10_1.length (bkS 11 nu_11_10_1 ex_0_2_6_8), .str "book"]).isSome = true := by decide +kernel
theorem wb36 : (m_want_book [eB 31 nu_31_10_1.length (bkS 31 nu_31_10_1 ex_0), .str "book"]).isSome = true := by decide +kernel
theorem wb37 : (m_want_book [eB 31 nu_31_10_1.length (bkS 31 nu_31_10_1 ex_0_2), .str "book"]).isSome = true := by decide +kernel
theorem wb38 : (m_want_book [eB 31 nu_31_10_1.length (bkS 31 nu_31_10_1 ex_0_2_6), .str "book"]).isSome = true := by decide +kernel
theorem wb39 : (m_want_book [eB 31 nu_31_10_1.length (bkS 31 nu_31_10_1 ex_0_2_6_8), .str "book"]).isSome = true := by decide +kernel
theorem wb40 : (m_want_book [eB 19 nu_19_6_1.length (bkS 19 nu_19_6_1 ex_0_4), .str "book"]).isSome = true := by decide +kernel
end Pl
set_option Elab.async false
set_option linter.all false
set_option maxRecDepth 100000
set_option maxHeartbeats 0
namespace Pl
open PySem Ly Mf L2
theorem lf_n0_1_1 : leafB 7 1 6 1 1 nu_7_6_1 sm0 ex_0 = true := by decide +kernel
theorem lf_n0_4_1 : leafB 7 1 6 1 4 nu_7_6_1 sm0 ex_0 = true := by decide +kernel
theorem lf_n0_5_3 : leafB 7 1 6 1 5 nu_7_6_1 sm0 ex_0_2_4 = true := by decide +kernel
theorem lf_n1_1_1 : leafB 13 2 6 1 1 nu_13_6_1 sm1 ex_0 = true := by decide +kernel
theorem lf_n1_3_2 : leafB 13 2 6 1 3 nu_13_6_1 sm1 ex_0_1 = true := by decide +kernel
theorem lf_n1_5_1 : leafB 13 2 6 1 5 nu_13_6_1 sm1 ex_0 = true := by decide +kernel
theorem lf_n1_6_1 : leafB 13 2 6 1 6 nu_13_6_1 sm1 ex_0 = true := by decide +kernel
theorem lf_n2_1_1 : leafB 19 2 6 1 1 nu_19_6_1 sm2 ex_0 = true := by decide +kernel
theorem lf_n2_3_2 : leafB 19 2 6 1 3 nu_19_6_1 sm2 ex_0_1 = true := by decide +kernel
theorem lf_n2_5_1 : leafB 19 2 6 1 5 nu_19_6_1 sm2 ex_0 = true := by decide +kernel
theorem lf_n2_6_1 : leafB 19 2 6 1 6 nu_19_6_1 sm2 ex_0 = true := by decide +kernel
theorem lf_n3_1_1 : leafB 5 1 4 1 1 nu_5_4_1 sm3 ex_0 = true := by decide +kernel
theorem lf_n3_4_1 : leafB 5 1 4 1 4 nu_5_4_1 sm3 ex_0 = true := by decide +kernel
theorem lf_n4_2_1 : leafB 17 1 4 2 2 nu_17_4_2 sm4 ex_0 = true := by decide +kernel
theorem lf_n4_3_3 : leafB 17 1 4 2 3 nu_17_4_2 sm4 ex_0_2_4 = true := by decide +kernel
theorem lf_n4_4_3 : leafB 17 1 4 2 4 nu_17_4_2 sm4 ex_0_2_4 = true := by decide +kernel
theorem lf_n6_4_3 : leafB 13 1 6 2 4 nu_13_6_2 sm6 ex_0_2_6 = true := by decide +kernel
theorem lf_n7_4_5 : leafB 31 2 6 2 4 nu_31_6_2 sm7 ex_0_1_3_6_7 = true := by decide +kernel
theorem lf_n9_1_1 : leafB 29 3 4 2 1 nu_29_4_2 sm9 ex_0 = true := by decide +kernel
theorem lf_n9_2_3 : leafB 29 3 4 2 2 nu_29_4_2 sm9 ex_0_1_4 = true := by decide +kernel
theorem lf_n9_3_3 : leafB 29 3 4 2 3 nu_29_4_2 sm9 ex_0_1_2 = true := by decide +kernel
theorem lf_n9_4_1 : leafB 29 3 4 2 4 nu_29_4_2 sm9 ex_0 = true := by decide +kernel
theorem lf_n9_4_5 : leafB 29 3 4 2 4 nu_29_4_2 sm9 ex_0_1_2_4_5 = true := by decide +kernel
theorem lf_c1_3 : leafC 13 3 2 nu_13_6_2 fi1 se1 ex_0_4_6 = true := by decide +kernel
theorem lf_c2_5 : leafC 13 3 4 nu_13_12_1 fi2 se2 ex_0_1_4_6_9 = true := by decide +kernel
theorem lf_c3_3 : leafC 11 2 5 nu_11_10_1 fi3 se3 ex_0_2_6 = true := by decide +kernel
theorem lf_c5_1 : leafC 31 5 2 nu_31_10_1 fi5 se5 ex_0 = true := by decide +kernel
theorem lf_c6_1 : leafC 19 3 2 nu_19_6_1 fi6 se6 ex_0 = true := by decide +kernel
end Pl
set_option Elab.async false
set_option linter.all false
set_option maxRecDepth 100000
set_option maxHeartbeats 0
namespace Pl
open PySem Ly Mf L2
theorem lf_n0_2_1 : leafB 7 1 6 1 2 nu_7_6_1 sm0 ex_0 = true := by decide +kernel
theorem lf_n0_4_2 : leafB 7 1 6 1 4 nu_7_6_1 sm0 ex_0_2 = true := by decide +kernel
theorem lf_n0_6_1 : leafB 7 1 6 1 6 nu_7_6_1 sm0 ex_0 = true := by decide +kernel
theorem lf_n1_2_1 : leafB 13 2 6 1 2 nu_13_6_1 sm1 ex_0 = true := by decide +kernel
theorem lf_n1_4_1 : leafB 13 2 6 1 4 nu_13_6_1 sm1 ex_0 = true := by decide +kernel
theorem lf_n1_5_2 : leafB 13 2 6 1 5 nu_13_6_1 sm1 ex_0_1 = true := by decide +kernel
theorem lf_n1_6_2 : leafB 13 2 6 1 6 nu_13_6_1 sm1 ex_0_1 = true := by decide +kernel
theorem lf_n2_2_1 : leafB 19 2 6 1 2 nu_19_6_1 sm2 ex_0 = true := by decide +kernel
theorem lf_n2_4_1 : leafB 19 2 6 1 4 nu_19_6_1 sm2 ex_0 = true := by decide +kernel
theorem lf_n2_5_2 : leafB 19 2 6 1 5 nu_19_6_1 sm2 ex_0_1 = true := by decide +kernel
theorem lf_n2_6_2 : leafB 19 2 6 1 6 nu_19_6_1 sm2 ex_0_1 = true := by decide +kernel
theorem lf_n3_2_1 : leafB 5 1 4 1 2 nu_5_4_1 sm3 ex_0 = true := by decide +kernel
theorem lf_n3_4_2 : leafB 5 1 4 1 4 nu_5_4_1 sm3 ex_0_2 = true := by decide +kernel
theorem lf_n4_2_2 : leafB 17 1 4 2 2 nu_17_4_2 sm4 ex_0_4 = true := by decide +kernel
theorem lf_n4_3_4 : leafB 17 1 4 2 3 nu_17_4_2 sm4 ex_0_2_4_6 = true := by decide +kernel
theorem lf_n4_4_4 : leafB 17 1 4 2 4 nu_17_4_2 sm4 ex_0_2_4_6 = true := by decide +kernel
theorem lf_n6_4_4 : leafB 13 1 6 2 4 nu_13_6_2 sm6 ex_0_2_6_8 = true := by decide +kernel
theorem lf_n7_4_6 : leafB 31 2 6 2 4 nu_31_6_2 sm7 ex_0_1_3_6_7_9 = true := by decide +kernel
theorem lf_n9_1_2 : leafB 29 3 4 2 1 nu_29_4_2 sm9 ex_0_4 = true := by decide +kernel
theorem lf_n9_2_4 : leafB 29 3 4 2 2 nu_29_4_2 sm9 ex_0_1_4_5 = true := by decide +kernel
theorem lf_n9_3_4 : leafB 29 3 4 2 3 nu_29_4_2 sm9 ex_0_1_2_4 = true := by decide +kernel
theorem lf_n9_4_2 : leafB 29 3 4 2 4 nu_29_4_2 sm9 ex_0_1 = true := by decide +kernel
theorem lf_n9_4_6 : leafB 29 3 4 2 4 nu_29_4_2 sm9 ex_0_1_2_4_5_6 = true := by decide +kernel
theorem lf_c1_4 : leafC 13 3 2 nu_13_6_2 fi1 se1 ex_0_4_6_10 = true := by decide +kernel
theorem lf_c2_6 : leafC 13 3 4 nu_13_12_1 fi2 se2 ex_0_1_4_6_9_10 = true := by decide +kernel
theorem lf_c3_4 : leafC 11 2 5 nu_11_10_1 fi3 se3 ex_0_2_6_8 = true := by decide +kernel
theorem lf_c5_2 : leafC 31 5 2 nu_31_10_1 fi5 se5 ex_0_2 = true := by decide +kernel
theorem lf_c6_2 : leafC 19 3 2 nu_19_6_1 fi6 se6 ex_0_4 = true := by decide +kernel
end Pl
set_option Elab.async false
set_option linter.all false
set_option maxRecDepth 100000
set_option maxHeartbeats 0
namespace Pl
open PySem Ly Mf L2
theorem lf_n0_3_1 : leafB 7 1 6 1 3 nu_7_6_1 sm0 ex_0 = true := by decide +kernel
theorem lf_n0_5_1 : leafB 7 1 6 1 5 nu_7_6_1 sm0 ex_0 = true := by decide +kernel
theorem lf_n0_6_2 : leafB 7 1 6 1 6 nu_7_6_1 sm0 ex_0_2 = true := by decide +kernel
theorem lf_n1_2_2 : leafB 13 2 6 1 2 nu_13_6_1 sm1 ex_0_1 = true := by decide +kernel
theorem lf_n1_4_2 : leafB 13 2 6 1 4 nu_13_6_1 sm1 ex_0_1 = true := by decide +kernel
theorem lf_n1_5_3 : leafB 13 2 6 1 5 nu_13_6_1 sm1 ex_0_1_3 = true := by decide +kernel
theorem lf_n1_6_3 : leafB 13 2 6 1 6 nu_13_6_1 sm1 ex_0_1_3 = true := by decide +kernel
theorem lf_n2_2_2 : leafB 19 2 6 1 2 nu_19_6_1 sm2 ex_0_1 = true := by decide +kernel
theorem lf_n2_4_2 : leafB 19 2 6 1 4 nu_19_6_1 sm2 ex_0_1 = true := by decide +kernel
theorem lf_n2_5_3 : leafB 19 2 6 1 5 nu_19_6_1 sm2 ex_0_1_3 = true := by decide +kernel
theorem lf_n2_6_3 : leafB 19 2 6 1 6 nu_19_6_1 sm2 ex_0_1_3 = true := by decide +kernel
theorem lf_n3_3_1 : leafB 5 1 4 1 3 nu_5_4_1 sm3 ex_0 = true := by decide +kernel
theorem lf_n4_1_1 : leafB 17 1 4 2 1 nu_17_4_2 sm4 ex_0 = true := by decide +kernel
theorem lf_n4_3_1 : leafB 17 1 4 2 3 nu_17_4_2 sm4 ex_0 = true := by decide +kernel
theorem lf_n4_4_1 : leafB 17 1 4 2 4 nu_17_4_2 sm4 ex_0 = true := by decide +kernel
theorem lf_n5_3_3 : leafB 13 1 6 2 3 nu_13_6_2 sm5 ex_0_2_6 = true := by decide +kernel
theorem lf_n7_4_3 : leafB 31 2 6 2 4 nu_31_6_2 sm7 ex_0_1_3 = true := by decide +kernel
theorem lf_n8_3_3 : leafB 37 1 6 2 3 nu_37_6_2 sm8 ex_0_2_6 = true := by decide +kernel
theorem lf_n9_2_1 : leafB 29 3 4 2 2 nu_29_4_2 sm9 ex_0 = true := by decide +kernel
theorem lf_n9_3_1 : leafB 29 3 4 2 3 nu_29_4_2 sm9 ex_0 = true := by decide +kernel
theorem lf_n9_3_5 : leafB 29 3 4 2 3 nu_29_4_2 sm9 ex_0_1_2_4_5 = true := by decide +kernel
theorem lf_n9_4_3 : leafB 29 3 4 2 4 nu_29_4_2 sm9 ex_0_1_2 = true := by decide +kernel
theorem lf_c0_1 : leafC 7 2 3 nu_7_6_1 fi0 se0 ex_0 = true := by decide +kernel
theorem lf_c2_3 : leafC 13 3 4 nu_13_12_1 fi2 se2 ex_0_1_4 = true := by decide +kernel
theorem lf_c3_1 : leafC 11 2 5 nu_11_10_1 fi3 se3 ex_0 = true := by decide +kernel
theorem lf_c4_3 : leafC 31 2 3 nu_31_6_2 fi4 se4 ex_0_4_6 = true := by decide +kernel
theorem lf_c5_3 : leafC 31 5 2 nu_31_10_1 fi5 se5 ex_0_2_6 = true := by decide +kernel
end Pl
set_option Elab.async false
set_option linter.all false
set_option maxRecDepth 100000
set_option maxHeartbeats 0
namespace Pl
open PySem Ly Mf L2
theorem lf_n0_3_2 : leafB 7 1 6 1 3 nu_7_6_1 sm0 ex_0_2 = true := by decide +kernel
theorem lf_n0_5_2 : leafB 7 1 6 1 5 nu_7_6_1 sm0 ex_0_2 = true := by decide +kernel
theorem lf_n0_6_3 : leafB 7 1 6 1 6 nu_7_6_1 sm0 ex_0_2_4 = true := by decide +kernel
theorem lf_n1_3_1 : leafB 13 2 6 1 3 nu_13_6_1 sm1 ex_0 = true := by decide +kernel
theorem lf_n1_4_3 : leafB 13 2 6 1 4 nu_13_6_1 sm1 ex_0_1_3 = true := by decide +kernel
theorem lf_n1_5_4 : leafB 13 2 6 1 5 nu_13_6_1 sm1 ex_0_1_3_4 = true := by decide +kernel
theorem lf_n1_6_4 : leafB 13 2 6 1 6 nu_13_6_1 sm1 ex_0_1_3_4 = true := by decide +kernel
theorem lf_n2_3_1 : leafB 19 2 6 1 3 nu_19_6_1 sm2 ex_0 = true := by decide +kernel
theorem lf_n2_4_3 : leafB 19 2 6 1 4 nu_19_6_1 sm2 ex_0_1_3 = true := by decide +kernel
theorem lf_n2_5_4 : leafB 19 2 6 1 5 nu_19_6_1 sm2 ex_0_1_3_4 = true := by decide +kernel
theorem lf_n2_6_4 : leafB 19 2 6 1 6 nu_19_6_1 sm2 ex_0_1_3_4 = true := by decide +kernel
theorem lf_n3_3_2 : leafB 5 1 4 1 3 nu_5_4_1 sm3 ex_0_2 = true := by decide +kernel
theorem lf_n4_1_2 : leafB 17 1 4 2 1 nu_17_4_2 sm4 ex_0_4 = true := by decide +kernel
theorem lf_n4_3_2 : leafB 17 1 4 2 3 nu_17_4_2 sm4 ex_0_2 = true := by decide +kernel
theorem lf_n4_4_2 : leafB 17 1 4 2 4 nu_17_4_2 sm4 ex_0_2 = true := by decide +kernel
theorem lf_n5_3_4 : leafB 13 1 6 2 3 nu_13_6_2 sm5 ex_0_2_6_8 = true := by decide +kernel
theorem lf_n7_4_4 : leafB 31 2 6 2 4 nu_31_6_2 sm7 ex_0_1_3_6 = true := by decide +kernel
theorem lf_n8_3_4 : leafB 37 1 6 2 3 nu_37_6_2 sm8 ex_0_2_6_8 = true := by decide +kernel
theorem lf_n9_2_2 : leafB 29 3 4 2 2 nu_29_4_2 sm9 ex_0_1 = true := by decide +kernel
theorem lf_n9_3_2 : leafB 29 3 4 2 3 nu_29_4_2 sm9 ex_0_1 = true := by decide +kernel
theorem lf_n9_3_6 : leafB 29 3 4 2 3 nu_29_4_2 sm9 ex_0_1_2_4_5_6 = true := by decide +kernel
theorem lf_n9_4_4 : leafB 29 3 4 2 4 nu_29_4_2 sm9 ex_0_1_2_4 = true := by decide +kernel
theorem lf_c0_2 : leafC 7 2 3 nu_7_6_1 fi0 se0 ex_0_4 = true := by decide +kernel
theorem lf_c2_4 : leafC 13 3 4 nu_13_12_1 fi2 se2 ex_0_1_4_6 = true := by decide +kernel
theorem lf_c3_2 : leafC 11 2 5 nu_11_10_1 fi3 se3 ex_0_2 = true := by decide +kernel
theorem lf_c4_4 : leafC 31 2 3 nu_31_6_2 fi4 se4 ex_0_4_6_10 = true := by decide +kernel
theorem lf_c5_4 : leafC 31 5 2 nu_31_10_1 fi5 se5 ex_0_2_6_8 = true := by decide +kernel
end Pl
set_option Elab.async false
set_option linter.all false
set_option maxRecDepth 100000
set_option maxHeartbeats 0
namespace Pl
open PySem Ly Mf L2
theorem lv18_1 : lvB 31 nu_31_6_2 ex_0_1_3_6_7 1 = true := by decide +kernel
theorem lg18_1 : lgB 31 nu_31_6_2 ex_0_1_3_6_7 1 = false := by decide +kernel
theorem lv18_2 : lvB 31 nu_31_6_2 ex_0_1_3_6_7 2 = true := by decide +kernel
theorem lg18_2 : lgB 31 nu_31_6_2 ex_0_1_3_6_7 2 = false := by decide +kernel
theorem lv18_3 : lvB 31 nu_31_6_2 ex_0_1_3_6_7 3 = true := by decide +kernel
theorem lg18_3 : lgB 31 nu_31_6_2 ex_0_1_3_6_7 3 = false := by decide +kernel
theorem lv18_4 : lvB 31 nu_31_6_2 ex_0_1_3_6_7 4 = true := by decide +kernel
theorem lg18_4 : lgB 31 nu_31_6_2 ex_0_1_3_6_7 4 = false := by decide +kernel
theorem fd18 : fdB 31 nu_31_6_2 ex_0_1_3_6_7 5 = true := by decide +kernel
theorem lh18 : lgB 31 nu_31_6_2 ex_0_1_3_6_7 5 = true := by decide +kernel
theorem ap18 : apB 31 nu_31_6_2 ex_0_1_3_6_7 5 = true := by
  refine apB_of (by decide +kernel) (fun m h1 h2 => ?_) fd18 lh18
  have hm : m = 1 ∨ m = 2 ∨ m = 3 ∨ m = 4 := by omega
  rcases hm with rfl | rfl | rfl | rfl
  · exact ⟨lv18_1, lg18_1⟩
  · exact ⟨lv18_2, lg18_2⟩
  · exact ⟨lv18_3, lg18_3⟩
  · exact ⟨lv18_4, lg18_4⟩
theorem lv32_1 : lvB 11 nu_11_10_1 ex_0 1 = true := by decide +kernel
theorem lg32_1 : lgB 11 nu_11_10_1 ex_0 1 = false := by decide +kernel
theorem lv32_2 : lvB 11 nu_11_10_1 ex_0 2 = true := by decide +kernel
theorem lg32_2 : lgB 11 nu_11_10_1 ex_0 2 = false := by decide +kernel
theorem lv32_3 : lvB 11 nu_11_10_1 ex_0 3 = true := by decide +kernel
theorem lg32_3 : lgB 11 nu_11_10_1 ex_0 3 = false := by decide +kernel
theorem lv32_4 : lvB 11 nu_11_10_1 ex_0 4 = true := by decide +kernel
theorem lg32_4 : lgB 11 nu_11_10_1 ex_0 4 = false := by decide +kernel
theorem lv32_5 : lvB 11 nu_11_10_1 ex_0 5 = true := by decide +kernel
theorem lg32_5 : lgB 11 nu_11_10_1 ex_0 5 = false := by decide +kernel
theorem lv32_6 : lvB 11 nu_11_10_1 ex_0 6 = true := by decide +kernel
theorem lg32_6 : lgB 11 nu_11_10_1 ex_0 6 = false := by decide +kernel
theorem lv32_7 : lvB 11 nu_11_10_1 ex_0 7 = true := by decide +kernel
theorem lg32_7 : lgB 11 nu_11_10_1 ex_0 7 = false := by decide +kernel
theorem lv32_8 : lvB 11 nu_11_10_1 ex_0 8 = true := by decide +kernel
theorem lg32_8 : lgB 11 nu_11_10_1 ex_0 8 = false := by decide +kernel
theorem lv32_9 : lvB 11 nu_11_10_1 ex_0 9 = true := by decide +kernel
theorem lg32_9 : lgB 11 nu_11_10_1 ex_0 9 = false := by decide +kernel
theorem fd32 : fdB 11 nu_11_10_1 ex_0 10 = true := by decide +kernel
theorem lh32 : lgB 11 nu_11_10_1 ex_0 10 = true := by decide +kernel
theorem ap32 : apB 11 nu_11_10_1 ex_0 10 = true := by
  refine apB_of (by decide +kernel) (fun m h1 h2 => ?_) fd32 lh32
  have hm : m = 1 ∨ m = 2 ∨ m = 3 ∨ m = 4 ∨ m = 5 ∨ m = 6 ∨ m = 7 ∨ m = 8 ∨ m = 9 := by omega
  rcases hm with rfl | rfl | rfl | rfl | rfl | rfl | rfl | rfl | rfl
  · exact ⟨lv32_1, lg32_1⟩
  · exact ⟨lv32_2, lg32_2⟩
  · exact ⟨lv32_3, lg32_3⟩
  · exact ⟨lv32_4, lg32_4⟩
  · exact ⟨lv32_5, lg32_5⟩
  · exact ⟨lv32_6, lg32_6⟩
  · exact ⟨lv32_7, lg32_7⟩
  · exact ⟨lv32_8, lg32_8⟩
  · exact ⟨lv32_9, lg32_9⟩
theorem lv36_1 : lvB 31 nu_31_10_1 ex_0 1 = true := by decide +kernel
theorem lg36_1 : lgB 31 nu_31_10_1 ex_0 1 = false := by decide +kernel
theorem lv36_2 : lvB 31 nu_31_10_1 ex_0 2 = true := by decide +kernel
theorem lg36_2 : lgB 31 nu_31_10_1 ex_0 2 = false := by decide +kernel
theorem lv36_3 : lvB 31 nu_31_10_1 ex_0 3 = true := by decide +kernel
theorem lg36_3 : lgB 31 nu_31_10_1 ex_0 3 = false := by decide +kernel
theorem lv36_4 : lvB 31 nu_31_10_1 ex_0 4 = true := by decide +kernel
theorem lg36_4 : lgB 31 nu_31_10_1 ex_0 4 = false := by decide +kernel
theorem lv36_5 : lvB 31 nu_31_10_1 ex_0 5 = true := by decide +kernel
theorem lg36_5 : lgB 31 nu_31_10_1 ex_0 5 = false := by decide +kernel
theorem lv36_6 : lvB 31 nu_31_10_1 ex_0 6 = true := by decide +kernel
theorem lg36_6 : lgB 31 nu_31_10_1 ex_0 6 = false := by decide +kernel
theorem lv36_7 : lvB 31 nu_31_10_1 ex_0 7 = true := by decide +kernel
theorem lg36_7 : lgB 31 nu_31_10_1 ex_0 7 = false := by decide +kernel
theorem lv36_8 : lvB 31 nu_31_10_1 ex_0 8 = true := by decide +kernel
theorem lg36_8 : lgB 31 nu_31_10_1 ex_0 8 = false := by decide +kernel
theorem lv36_9 : lvB 31 nu_31_10_1 ex_0 9 = true := by decide +kernel
theorem lg36_9 : lgB 31 nu_31_10_1 ex_0 9 = false := by decide +kernel
theorem fd36 : fdB 31 nu_31_10_1 ex_0 10 = true := by decide +kernel
theorem lh36 : lgB 31 nu_31_10_1 ex_0 10 = true := by decide +kernel
theorem ap36 : apB 31 nu_31_10_1 ex_0 10 = true := by
  refine apB_of (by decide +kernel) (fun m h1 h2 => ?_) fd36 lh36
  have hm : m = 1 ∨ m = 2 ∨ m = 3 ∨ m = 4 ∨ m = 5 ∨ m = 6 ∨ m = 7 ∨ m = 8 ∨ m = 9 := by omega
  rcases hm with rfl | rfl | rfl | rfl | rfl | rfl | rfl | rfl | rfl
  · exact ⟨lv36_1, lg36_1⟩
  · exact ⟨lv36_2, lg36_2⟩
  · exact ⟨lv36_3, lg36_3⟩
  · exact ⟨lv36_4, lg36_4⟩
  · exact ⟨lv36_5, lg36_5⟩
  · exact ⟨lv36_6, lg36_6⟩
  · exact ⟨lv36_7, lg36_7⟩
  · exact ⟨lv36_8, lg36_8⟩
  · exact ⟨lv36_9, lg36_9⟩
theorem ap13 : apB 17 nu_17_4_2 ex_0 8 = true := by decide +kernel
theorem ap17 : apB 17 nu_17_4_2 ex_0_2_4_6 2 = true := by decide +kernel
theorem ap23 : apB 29 nu_29_4_2 ex_0_1_4 4 = true := by decide +kernel
theorem ap27 : apB 29 nu_29_4_2 ex_0_1_2_4_5 3 = true := by decide +kernel
theorem ap2 : apB 7 nu_7_6_1 ex_0_2_4 2 = true := by decide +kernel
theorem ap6 : apB 13 nu_13_6_1 ex_0_1_3_4 2 = true := by decide +kernel
theorem ap10 : apB 19 nu_19_6_1 ex_0_1_3_4 2 = true := by decide +kernel
theorem ap12 : apB 5 nu_5_4_1 ex_0_2 2 = true := by decide +kernel
end Pl
set_option Elab.async false
set_option linter.all false
set_option maxRecDepth 100000
set_option maxHeartbeats 0
namespace Pl
open PySem Ly Mf L2
theorem lv19_1 : lvB 31 nu_31_6_2 ex_0_1_3_6_7_9 1 = true := by decide +kernel
theorem lg19_1 : lgB 31 nu_31_6_2 ex_0_1_3_6_7_9 1 = false := by decide +kernel
theorem lv19_2 : lvB 31 nu_31_6_2 ex_0_1_3_6_7_9 2 = true := by decide +kernel
theorem lg19_2 : lgB 31 nu_31_6_2 ex_0_1_3_6_7_9 2 = false := by decide +kernel
theorem fd19 : fdB 31 nu_31_6_2 ex_0_1_3_6_7_9 3 = true := by decide +kernel
theorem lh19 : lgB 31 nu_31_6_2 ex_0_1_3_6_7_9 3 = true := by decide +kernel
theorem ap19 : apB 31 nu_31_6_2 ex_0_1_3_6_7_9 3 = true := by
  refine apB_of (by decide +kernel) (fun m h1 h2 => ?_) fd19 lh19
  have hm : m = 1 ∨ m = 2 := by omega
  rcases hm with rfl | rfl
  · exact ⟨lv19_1, lg19_1⟩
  · exact ⟨lv19_2, lg19_2⟩
theorem lv33_1 : lvB 11 nu_11_10_1 ex_0_2 1 = true := by decide +kernel
theorem lg33_1 : lgB 11 nu_11_10_1 ex_0_2 1 = false := by decide +kernel
theorem lv33_2 : lvB 11 nu_11_10_1 ex_0_2 2 = true := by decide +kernel
theorem lg33_2 : lgB 11 nu_11_10_1 ex_0_2 2 = false := by decide +kernel
theorem lv33_3 : lvB 11 nu_11_10_1 ex_0_2 3 = true := by decide +kernel
theorem lg33_3 : lgB 11 nu_11_10_1 ex_0_2 3 = false := by decide +kernel
theorem lv33_4 : lvB 11 nu_11_10_1 ex_0_2 4 = true := by decide +kernel
theorem lg33_4 : lgB 11 nu_11_10_1 ex_0_2 4 = false := by decide +kernel
theorem lv33_5 : lvB 11 nu_11_10_1 ex_0_2 5 = true := by decide +kernel
theorem lg33_5 : lgB 11 nu_11_10_1 ex_0_2 5 = false := by decide +kernel
theorem lv33_6 : lvB 11 nu_11_10_1 ex_0_2 6 = true := by decide +kernel
theorem lg33_6 : lgB 11 nu_11_10_1 ex_0_2 6 = false := by decide +kernel
theorem lv33_7 : lvB 11 nu_11_10_1 ex_0_2 7 = true := by decide +kernel
theorem lg33_7 : lgB 11 nu_11_10_1 ex_0_2 7 = false := by decide +kernel
theorem fd33 : fdB 11 nu_11_10_1 ex_0_2 8 = true := by decide +kernel
theorem lh33 : lgB 11 nu_11_10_1 ex_0_2 8 = true := by decide +kernel
theorem ap33 : apB 11 nu_11_10_1 ex_0_2 8 = true := by
  refine apB_of (by decide +kernel) (fun m h1 h2 => ?_) fd33 lh33
  have hm : m = 1 ∨ m = 2 ∨ m = 3 ∨ m = 4 ∨ m = 5 ∨ m = 6 ∨ m = 7 := by omega
  rcases hm with rfl | rfl | rfl | rfl | rfl | rfl | rfl
  · exact ⟨lv33_1, lg33_1⟩
  · exact ⟨lv33_2, lg33_2⟩
  · exact ⟨lv33_3, lg33_3⟩
  · exact ⟨lv33_4, lg33_4⟩
  · exact ⟨lv33_5, lg33_5⟩
  · exact ⟨lv33_6, lg33_6⟩
  · exact ⟨lv33_7, lg33_7⟩
theorem lv37_1 : lvB 31 nu_31_10_1 ex_0_2 1 = true := by decide +kernel
theorem lg37_1 : lgB 31 nu_31_10_1 ex_0_2 1 = false := by decide +kernel
theorem lv37_2 : lvB 31 nu_31_10_1 ex_0_2 2 = true := by decide +kernel
theorem lg37_2 : lgB 31 nu_31_10_1 ex_0_2 2 = false := by decide +kernel
theorem lv37_3 : lvB 31 nu_31_10_1 ex_0_2 3 = true := by decide +kernel
theorem lg37_3 : lgB 31 nu_31_10_1 ex_0_2 3 = false := by decide +kernel
theorem lv37_4 : lvB 31 nu_31_10_1 ex_0_2 4 = true := by decide +kernel
theorem lg37_4 : lgB 31 nu_31_10_1 ex_0_2 4 = false := by decide +kernel
theorem lv37_5 : lvB 31 nu_31_10_1 ex_0_2 5 = true := by decide +kernel
theorem lg37_5 : lgB 31 nu_31_10_1 ex_0_2 5 = false := by decide +kernel
theorem lv37_6 : lvB 31 nu_31_10_1 ex_0_2 6 = true := by decide +kernel
theorem lg37_6 : lgB 31 nu_31_10_1 ex_0_2 6 = false := by decide +kernel
theorem lv37_7 : lvB 31 nu_31_10_1 ex_0_2 7 = true := by decide +kernel
theorem lg37_7 : lgB 31 nu_31_10_1 ex_0_2 7 = false := by decide +kernel
theorem fd37 : fdB 31 nu_31_10_1 ex_0_2 8 = true := by decide +kernel
theorem lh37 : lgB 31 nu_31_10_1 ex_0_2 8 = true := by decide +kernel
theorem ap37 : apB 31 nu_31_10_1 ex_0_2 8 = true := by
  refine apB_of (by decide +kernel) (fun m h1 h2 => ?_) fd37 lh37
  have hm : m = 1 ∨ m = 2 ∨ m = 3 ∨ m = 4 ∨ m = 5 ∨ m = 6 ∨ m = 7 := by omega
  rcases hm with rfl | rfl | rfl | rfl | rfl | rfl | rfl
  · exact ⟨lv37_1, lg37_1⟩
  · exact ⟨lv37_2, lg37_2⟩
  · exact ⟨lv37_3, lg37_3⟩
  · exact ⟨lv37_4, lg37_4⟩
  · exact ⟨lv37_5, lg37_5⟩
  · exact ⟨lv37_6, lg37_6⟩
  · exact ⟨lv37_7, lg37_7⟩
theorem ap14 : apB 17 nu_17_4_2 ex_0_4 4 = true := by decide +kernel
theorem ap20 : apB 29 nu_29_4_2 ex_0 8 = true := by decide +kernel
theorem ap24 : apB 29 nu_29_4_2 ex_0_1_4_5 3 = true := by decide +kernel
theorem ap28 : apB 29 nu_29_4_2 ex_0_1_2_4_5_6 2 = true := by decide +kernel
theorem ap3 : apB 13 nu_13_6_1 ex_0 6 = true := by decide +kernel
theorem ap7 : apB 19 nu_19_6_1 ex_0 6 = true := by decide +kernel
theorem ap29 : apB 7 nu_7_6_1 ex_0_4 4 = true := by decide +kernel
end Pl
set_option Elab.async false
set_option linter.all false
set_option maxRecDepth 100000
set_option maxHeartbeats 0
namespace Pl
open PySem Ly Mf L2
theorem lv30_1 : lvB 13 nu_13_12_1 ex_0_1_4_6_9 1 = true := by decide +kernel
theorem lg30_1 : lgB 13 nu_13_12_1 ex_0_1_4_6_9 1 = false := by decide +kernel
theorem lv30_2 : lvB 13 nu_13_12_1 ex_0_1_4_6_9 2 = true := by decide +kernel
theorem lg30_2 : lgB 13 nu_13_12_1 ex_0_1_4_6_9 2 = false := by decide +kernel
theorem lv30_3 : lvB 13 nu_13_12_1 ex_0_1_4_6_9 3 = true := by decide +kernel
theorem lg30_3 : lgB 13 nu_13_12_1 ex_0_1_4_6_9 3 = false := by decide +kernel
theorem lv30_4 : lvB 13 nu_13_12_1 ex_0_1_4_6_9 4 = true := by decide +kernel
theorem lg30_4 : lgB 13 nu_13_12_1 ex_0_1_4_6_9 4 = false := by decide +kernel
theorem lv30_5 : lvB 13 nu_13_12_1 ex_0_1_4_6_9 5 = true := by decide +kernel
theorem lg30_5 : lgB 13 nu_13_12_1 ex_0_1_4_6_9 5 = false := by decide +kernel
theorem fd30 : fdB 13 nu_13_12_1 ex_0_1_4_6_9 6 = true := by decide +kernel
theorem lh30 : lgB 13 nu_13_12_1 ex_0_1_4_6_9 6 = true := by decide +kernel
theorem ap30 : apB 13 nu_13_12_1 ex_0_1_4_6_9 6 = true := by
  refine apB_of (by decide +kernel) (fun m h1 h2 => ?_) fd30 lh30
  have hm : m = 1 ∨ m = 2 ∨ m = 3 ∨ m = 4 ∨ m = 5 := by omega
  rcases hm with rfl | rfl | rfl | rfl | rfl
  · exact ⟨lv30_1, lg30_1⟩
  · exact ⟨lv30_2, lg30_2⟩
  · exact ⟨lv30_3, lg30_3⟩
  · exact ⟨lv30_4, lg30_4⟩
  · exact ⟨lv30_5, lg30_5⟩
theorem lv34_1 : lvB 11 nu_11_10_1 ex_0_2_6 1 = true := by decide +kernel
theorem lg34_1 : lgB 11 nu_11_10_1 ex_0_2_6 1 = false := by decide +kernel
theorem lv34_2 : lvB 11 nu_11_10_1 ex_0_2_6 2 = true := by decide +kernel
theorem lg34_2 : lgB 11 nu_11_10_1 ex_0_2_6 2 = false := by decide +kernel
theorem lv34_3 : lvB 11 nu_11_10_1 ex_0_2_6 3 = true := by decide +kernel
theorem lg34_3 : lgB 11 nu_11_10_1 ex_0_2_6 3 = false := by decide +kernel
theorem lv34_4 : lvB 11 nu_11_10_1 ex_0_2_6 4 = true := by decide +kernel
theorem lg34_4 : lgB 11 nu_11_10_1 ex_0_2_6 4 = false := by decide +kernel
theorem lv34_5 : lvB 11 nu_11_10_1 ex_0_2_6 5 = true := by decide +kernel
theorem lg34_5 : lgB 11 nu_11_10_1 ex_0_2_6 5 = false := by decide +kernel
theorem fd34 : fdB 11 nu_11_10_1 ex_0_2_6 6 = true := by decide +kernel
theorem lh34 : lgB 11 nu_11_10_1 ex_0_2_6 6 = true := by decide +kernel
theorem ap34 : apB 11 nu_11_10_1 ex_0_2_6 6 = true := by
  refine apB_of (by decide +kernel) (fun m h1 h2 => ?_) fd34 lh34
  have hm : m = 1 ∨ m = 2 ∨ m = 3 ∨ m = 4 ∨ m = 5 := by omega
  rcases hm with rfl | rfl | rfl | rfl | rfl
  · exact ⟨lv34_1, lg34_1⟩
  · exact ⟨lv34_2, lg34_2⟩
  · exact ⟨lv34_3, lg34_3⟩
  · exact ⟨lv34_4, lg34_4⟩
  · exact ⟨lv34_5, lg34_5⟩
theorem lv38_1 : lvB 31 nu_31_10_1 ex_0_2_6 1 = true := by decide +kernel
theorem lg38_1 : lgB 31 nu_31_10_1 ex_0_2_6 1 = false := by decide +kernel
theorem lv38_2 : lvB 31 nu_31_10_1 ex_0_2_6 2 = true := by decide +kernel
theorem lg38_2 : lgB 31 nu_31_10_1 ex_0_2_6 2 = false := by decide +kernel
theorem lv38_3 : lvB 31 nu_31_10_1 ex_0_2_6 3 = true := by decide +kernel
theorem lg38_3 : lgB 31 nu_31_10_1 ex_0_2_6 3 = false := by decide +kernel
theorem lv38_4 : lvB 31 nu_31_10_1 ex_0_2_6 4 = true := by decide +kernel
theorem lg38_4 : lgB 31 nu_31_10_1 ex_0_2_6 4 = false := by decide +kernel
theorem lv38_5 : lvB 31 nu_31_10_1 ex_0_2_6 5 = true := by decide +kernel
theorem lg38_5 : lgB 31 nu_31_10_1 ex_0_2_6 5 = false := by decide +kernel
theorem fd38 : fdB 31 nu_31_10_1 ex_0_2_6 6 = true := by decide +kernel
theorem lh38 : lgB 31 nu_31_10_1 ex_0_2_6 6 = true := by decide +kernel
theorem ap38 : apB 31 nu_31_10_1 ex_0_2_6 6 = true := by
  refine apB_of (by decide +kernel) (fun m h1 h2 => ?_) fd38 lh38
  have hm : m = 1 ∨ m = 2 ∨ m = 3 ∨ m = 4 ∨ m = 5 := by omega
  rcases hm with rfl | rfl | rfl | rfl | rfl
  · exact ⟨lv38_1, lg38_1⟩
  · exact ⟨lv38_2, lg38_2⟩
  · exact ⟨lv38_3, lg38_3⟩
  · exact ⟨lv38_4, lg38_4⟩
  · exact ⟨lv38_5, lg38_5⟩
theorem ap15 : apB 17 nu_17_4_2 ex_0_2 6 = true := by decide +kernel
theorem ap21 : apB 29 nu_29_4_2 ex_0_4 4 = true := by decide +kernel
theorem ap25 : apB 29 nu_29_4_2 ex_0_1_2 6 = true := by decide +kernel
theorem ap0 : apB 7 nu_7_6_1 ex_0 6 = true := by decide +kernel
theorem ap4 : apB 13 nu_13_6_1 ex_0_1 5 = true := by decide +kernel
theorem ap8 : apB 19 nu_19_6_1 ex_0_1 5 = true := by decide +kernel
theorem ap40 : apB 19 nu_19_6_1 ex_0_4 4 = true := by decide +kernel
end Pl
set_option Elab.async false
set_option linter.all false
set_option maxRecDepth 100000
set_option maxHeartbeats 0
namespace Pl
open PySem Ly Mf L2
theorem lv31_1 : lvB 13 nu_13_12_1 ex_0_1_4_6_9_10 1 = true := by decide +kernel
theorem lg31_1 : lgB 13 nu_13_12_1 ex_0_1_4_6_9_10 1 = false := by decide +kernel
theorem lv31_2 : lvB 13 nu_13_12_1 ex_0_1_4_6_9_10 2 = true := by decide +kernel
theorem lg31_2 : lgB 13 nu_13_12_1 ex_0_1_4_6_9_10 2 = false := by decide +kernel
theorem lv31_3 : lvB 13 nu_13_12_1 ex_0_1_4_6_9_10 3 = true := by decide +kernel
theorem lg31_3 : lgB 13 nu_13_12_1 ex_0_1_4_6_9_10 3 = false := by decide +kernel
theorem fd31 : fdB 13 nu_13_12_1 ex_0_1_4_6_9_10 4 = true := by decide +kernel
theorem lh31 : lgB 13 nu_13_12_1 ex_0_1_4_6_9_10 4 = true := by decide +kernel
theorem ap31 : apB 13 nu_13_12_1 ex_0_1_4_6_9_10 4 = true := by
  refine apB_of (by decide +kernel) (fun m h1 h2 => ?_) fd31 lh31
  have hm : m = 1 ∨ m = 2 ∨ m = 3 := by omega
  rcases hm with rfl | rfl | rfl
  · exact ⟨lv31_1, lg31_1⟩
  · exact ⟨lv31_2, lg31_2⟩
  · exact ⟨lv31_3, lg31_3⟩
theorem lv35_1 : lvB 11 nu_11_10_1 ex_0_2_6_8 1 = true := by decide +kernel
theorem lg35_1 : lgB 11 nu_11_10_1 ex_0_2_6_8 1 = false := by decide +kernel
theorem lv35_2 : lvB 11 nu_11_10_1 ex_0_2_6_8 2 = true := by decide +kernel
theorem lg35_2 : lgB 11 nu_11_10_1 ex_0_2_6_8 2 = false := by decide +kernel
theorem lv35_3 : lvB 11 nu_11_10_1 ex_0_2_6_8 3 = true := by decide +kernel
theorem lg35_3 : lgB 11 nu_11_10_1 ex_0_2_6_8 3 = false := by decide +kernel
theorem fd35 : fdB 11 nu_11_10_1 ex_0_2_6_8 4 = true := by decide +kernel
theorem lh35 : lgB 11 nu_11_10_1 ex_0_2_6_8 4 = true := by decide +kernel
theorem ap35 : apB 11 nu_11_10_1 ex_0_2_6_8 4 = true := by
  refine apB_of (by decide +kernel) (fun m h1 h2 => ?_) fd35 lh35
  have hm : m = 1 ∨ m = 2 ∨ m = 3 := by omega
  rcases hm with rfl | rfl | rfl
  · exact ⟨lv35_1, lg35_1⟩
  · exact ⟨lv35_2, lg35_2⟩
  · exact ⟨lv35_3, lg35_3⟩
theorem lv39_1 : lvB 31 nu_31_10_1 ex_0_2_6_8 1 = true := by decide +kernel
theorem lg39_1 : lgB 31 nu_31_10_1 ex_0_2_6_8 1 = false := by decide +kernel
theorem lv39_2 : lvB 31 nu_31_10_1 ex_0_2_6_8 2 = true := by decide +kernel
theorem lg39_2 : lgB 31 nu_31_10_1 ex_0_2_6_8 2 = false := by decide +kernel
theorem lv39_3 : lvB 31 nu_31_10_1 ex_0_2_6_8 3 = true := by decide +kernel
theorem lg39_3 : lgB 31 nu_31_10_1 ex_0_2_6_8 3 = false := by decide +kernel
theorem fd39 : fdB 31 nu_31_10_1 ex_0_2_6_8 4 = true := by decide +kernel
theorem lh39 : lgB 31 nu_31_10_1 ex_0_2_6_8 4 = true := by decide +kernel
theorem ap39 : apB 31 nu_31_10_1 ex_0_2_6_8 4 = true := by
  refine apB_of (by decide +kernel) (fun m h1 h2 => ?_) fd39 lh39
  have hm : m = 1 ∨ m = 2 ∨ m = 3 := by omega
  rcases hm with rfl | rfl | rfl
  · exact ⟨lv39_1, lg39_1⟩
  · exact ⟨lv39_2, lg39_2⟩
  · exact ⟨lv39_3, lg39_3⟩
theorem ap16 : apB 17 nu_17_4_2 ex_0_2_4 4 = true := by decide +kernel
theorem ap22 : apB 29 nu_29_4_2 ex_0_1 7 = true := by decide +kernel
theorem ap26 : apB 29 nu_29_4_2 ex_0_1_2_4 4 = true := by decide +kernel
theorem ap1 : apB 7 nu_7_6_1 ex_0_2 4 = true := by decide +kernel
theorem ap5 : apB 13 nu_13_6_1 ex_0_1_3 3 = true := by decide +kernel
theorem ap9 : apB 19 nu_19_6_1 ex_0_1_3 3 = true := by decide +kernel
theorem ap11 : apB 5 nu_5_4_1 ex_0 4 = true := by decide +kernel
end Pl
set_option Elab.async false
set_option linter.all false
set_option maxRecDepth 100000
set_option maxHeartbeats 0
namespace Pl
open PySem Ly Mf L2
theorem tl_n0_1_1 (g : Addr) (lst least : Sl) : nt7 g [.pt g, lst, .val (eN 7), .val (eN 1), .val (eN 6), .val (eN 1), .val (eN 1), .val (.list (ex_0.map eN)), least, .val (eN 1), .no, .no, .no, .no, .no, .no, .no, .no, .no, .no] (fun out => out = .rt (.bool true)) :=
  nested_tail (p := 7) (few := 1) (wide := 6) (many := 1) (inner := 1) (told := 1) (nums := nu_7_6_1) (used := ex_0) (small := sm0) nc0 ok0 i1_n0_1 i2_n0_1 tw_n0_1_1 (by decide) lf_n0_1_1 (far_ok (p := 7) (n := nu_7_6_1.length) (exps := ex_0) (S := bkS 7 nu_7_6_1 ex_0) (a := 0) (as := []) (d := 6) rfl (by decide +kernel) (ap_facts ok0 lots6 wb0 ap0).1 (ap_facts ok0 lots6 wb0 ap0).2 (by decide +kernel))
theorem in_n0_1 (g : Addr) (lst : Sl) : wSeq (wP v4__law_nested_right) (wSeq (wP v5__law_nested_right) (wSeq v6__law_nested_right nt7)) g [.pt g, lst, .val (eN 7), .val (eN 1), .val (eN 6), .val (eN 1), .val (eN 1), .no, .no, .no, .no, .no, .no, .no, .no, .no, .no, .no, .no, .no] (fun out => out = .rt (.bool true)) := by
  refine wP_nx (r1 := [.pt g, lst, .val (eN 7), .val (eN 1), .val (eN 6), .val (eN 1), .val (eN 1), .val (.list (ex_0.map eN)), .no, .no, .no, .no, .no, .no, .no, .no, .no, .no, .no, .no]) (nfit0 1 g lst _ (by decide +kernel)) ?_
  refine wP_nx (r1 := [.pt g, lst, .val (eN 7), .val (eN 1), .val (eN 6), .val (eN 1), .val (eN 1), .val (.list (ex_0.map eN)), .val (eN 1), .no, .no, .no, .no, .no, .no, .no, .no, .no, .no, .no]) rfl ?_
  refine ⟨1, rfl, rfl, 1, rfl, by decide, by decide, fun i i0 i1 => ⟨i, rfl, ?_⟩⟩
  have hi : i = 0 := by omega
  rcases hi with rfl
  · exact tl_n0_1_1 g lst (.val (eN 1))
theorem tl_n0_2_1 (g : Addr) (lst least : Sl) : nt7 g [.pt g, lst, .val (eN 7), .val (eN 1), .val (eN 6), .val (eN 1), .val (eN 2), .val (.list (ex_0.map eN)), least, .val (eN 1), .no, .no, .no, .no, .no, .no, .no, .no, .no, .no] (fun out => out = .rt (.bool true)) :=
  nested_tail (p := 7) (few := 1) (wide := 6) (many := 1) (inner := 2) (told := 1) (nums := nu_7_6_1) (used := ex_0) (small := sm0) nc0 ok0 i1_n0_2 i2_n0_2 tw_n0_2_1 (by decide) lf_n0_2_1 (far_ok (p := 7) (n := nu_7_6_1.length) (exps := ex_0) (S := bkS 7 nu_7_6_1 ex_0) (a := 0) (as := []) (d := 6) rfl (by decide +kernel) (ap_facts ok0 lots6 wb0 ap0).1 (ap_facts ok0 lots6 wb0 ap0).2 (by decide +kernel))
theorem in_n0_2 (g : Addr) (lst : Sl) : wSeq (wP v4__law_nested_right) (wSeq (wP v5__law_nested_right) (wSeq v6__law_nested_right nt7)) g [.pt g, lst, .val (eN 7), .val (eN 1), .val (eN 6), .val (eN 1), .val (eN 2), .no, .no, .no, .no, .no, .no, .no, .no, .no, .no, .no, .no, .no] (fun out => out = .rt (.bool true)) := by
  refine wP_nx (r1 := [.pt g, lst, .val (eN 7), .val (eN 1), .val (eN 6), .val (eN 1), .val (eN 2), .val (.list (ex_0.map eN)), .no, .no, .no, .no, .no, .no, .no, .no, .no, .no, .no, .no]) (nfit0 2 g lst _ (by decide +kernel)) ?_
  refine wP_nx (r1 := [.pt g, lst, .val (eN 7), .val (eN 1), .val (eN 6), .val (eN 1), .val (eN 2), .val (.list (ex_0.map eN)), .val (eN 1), .no, .no, .no, .no, .no, .no, .no, .no, .no, .no, .no]) rfl ?_
  refine ⟨1, rfl, rfl, 1, rfl, by decide, by decide, fun i i0 i1 => ⟨i, rfl, ?_⟩⟩
  have hi : i = 0 := by omega
  rcases hi with rfl
  · exact tl_n0_2_1 g lst (.val (eN 1))
theorem tl_n0_3_1 (g : Addr) (lst least : Sl) : nt7 g [.pt g, lst, .val (eN 7), .val (eN 1), .val (eN 6), .val (eN 1), .val (eN 3), .val (.list (ex_0_2.map eN)), least, .val (eN 1), .no, .no, .no, .no, .no, .no, .no, .no, .no, .no] (fun out => out = .rt (.bool true)) :=
  nested_tail (p := 7) (few := 1) (wide := 6) (many := 1) (inner := 3) (told := 1) (nums := nu_7_6_1) (used := ex_0_2) (small := sm0) nc0 ok0 i1_n0_3 i2_n0_3 tw_n0_3_1 (by decide) lf_n0_3_1 (far_ok (p := 7) (n := nu_7_6_1.length) (exps := ex_0) (S := bkS 7 nu_7_6_1 ex_0) (a := 0) (as := []) (d := 6) rfl (by decide +kernel) (ap_facts ok0 lots6 wb0 ap0).1 (ap_facts ok0 lots6 wb0 ap0).2 (by decide +kernel))
theorem tl_n0_3_2 (g : Addr) (lst least : Sl) : nt7 g [.pt g, lst, .val (eN 7), .val (eN 1), .val (eN 6), .val (eN 1), .val (eN 3), .val (.list (ex_0_2.map eN)), least, .val (eN 2), .no, .no, .no, .no, .no, .no, .no, .no, .no, .no] (fun out => out = .rt (.bool true)) :=
  nested_tail (p := 7) (few := 1) (wide := 6) (many := 1) (inner := 3) (told := 2) (nums := nu_7_6_1) (used := ex_0_2) (small := sm0) nc0 ok1 i1_n0_3 i2_n0_3 tw_n0_3_2 (by decide) lf_n0_3_2 (far_ok (p := 7) (n := nu_7_6_1.length) (exps := ex_0_2) (S := bkS 7 nu_7_6_1 ex_0_2) (a := 0) (as := [2]) (d := 4) rfl (by decide +kernel) (ap_facts ok1 lots6 wb1 ap1).1 (ap_facts ok1 lots6 wb1 ap1).2 (by decide +kernel))
theorem in_n0_3 (g : Addr) (lst : Sl) : wSeq (wP v4__law_nested_right) (wSeq (wP v5__law_nested_right) (wSeq v6__law_nested_right nt7)) g [.pt g, lst, .val (eN 7), .val (eN 1), .val (eN 6), .val (eN 1), .val (eN 3), .no, .no, .no, .no, .no, .no, .no, .no, .no, .no, .no, .no, .no] (fun out => out = .rt (.bool true)) := by
  refine wP_nx (r1 := [.pt g, lst, .val (eN 7), .val (eN 1), .val (eN 6), .val (eN 1), .val (eN 3), .val (.list (ex_0_2.map eN)), .no, .no, .no, .no, .no, .no, .no, .no, .no, .no, .no, .no]) (nfit0 3 g lst _ (by decide +kernel)) ?_
  refine wP_nx (r1 := [.pt g, lst, .val (eN 7), .val (eN 1), .val (eN 6), .val (eN 1), .val (eN 3), .val (.list (ex_0_2.map eN)), .val (eN 1), .no, .no, .no, .no, .no, .no, .no, .no, .no, .no, .no]) rfl ?_
  refine ⟨1, rfl, rfl, 2, rfl, by decide, by decide, fun i i0 i1 => ⟨i, rfl, ?_⟩⟩
  have hi : i = 0 ∨ i = 1 := by omega
  rcases hi with rfl | rfl
  · exact tl_n0_3_1 g lst (.val (eN 1))
  · exact tl_n0_3_2 g lst (.val (eN 1))
theorem tl_n0_4_1 (g : Addr) (lst least : Sl) : nt7 g [.pt g, lst, .val (eN 7), .val (eN 1), .val (eN 6), .val (eN 1), .val (eN 4), .val (.list (ex_0_2.map eN)), least, .val (eN 1), .no, .no, .no, .no, .no, .no, .no, .no, .no, .no] (fun out => out = .rt (.bool true)) :=
  nested_tail (p := 7) (few := 1) (wide := 6) (many := 1) (inner := 4) (told := 1) (nums := nu_7_6_1) (used := ex_0_2) (small := sm0) nc0 ok0 i1_n0_4 i2_n0_4 tw_n0_4_1 (by decide) lf_n0_4_1 (far_ok (p := 7) (n := nu_7_6_1.length) (exps := ex_0) (S := bkS 7 nu_7_6_1 ex_0) (a := 0) (as := []) (d := 6) rfl (by decide +kernel) (ap_facts ok0 lots6 wb0 ap0).1 (ap_facts ok0 lots6 wb0 ap0).2 (by decide +kernel))
theorem tl_n0_4_2 (g : Addr) (lst least : Sl) : nt7 g [.pt g, lst, .val (eN 7), .val (eN 1), .val (eN 6), .val (eN 1), .val (eN 4), .val (.list (ex_0_2.map eN)), least, .val (eN 2), .no, .no, .no, .no, .no, .no, .no, .no, .no, .no] (fun out => out = .rt (.bool true)) :=
  nested_tail (p := 7) (few := 1) (wide := 6) (many := 1) (inner := 4) (told := 2) (nums := nu_7_6_1) (used := ex_0_2) (small := sm0) nc0 ok1 i1_n0_4 i2_n0_4 tw_n0_4_2 (by decide) lf_n0_4_2 (far_ok (p := 7) (n := nu_7_6_1.length) (exps := ex_0_2) (S := bkS 7 nu_7_6_1 ex_0_2) (a := 0) (as := [2]) (d := 4) rfl (by decide +kernel) (ap_facts ok1 lots6 wb1 ap1).1 (ap_facts ok1 lots6 wb1 ap1).2 (by decide +kernel))
theorem in_n0_4 (g : Addr) (lst : Sl) : wSeq (wP v4__law_nested_right) (wSeq (wP v5__law_nested_right) (wSeq v6__law_nested_right nt7)) g [.pt g, lst, .val (eN 7), .val (eN 1), .val (eN 6), .val (eN 1), .val (eN 4), .no, .no, .no, .no, .no, .no, .no, .no, .no, .no, .no, .no, .no] (fun out => out = .rt (.bool true)) := by
  refine wP_nx (r1 := [.pt g, lst, .val (eN 7), .val (eN 1), .val (eN 6), .val (eN 1), .val (eN 4), .val (.list (ex_0_2.map eN)), .no, .no, .no, .no, .no, .no, .no, .no, .no, .no, .no, .no]) (nfit0 4 g lst _ (by decide +kernel)) ?_
  refine wP_nx (r1 := [.pt g, lst, .val (eN 7), .val (eN 1), .val (eN 6), .val (eN 1), .val (eN 4), .val (.list (ex_0_2.map eN)), .val (eN 1), .no, .no, .no, .no, .no, .no, .no, .no, .no, .no, .no]) rfl ?_
  refine ⟨1, rfl, rfl, 2, rfl, by decide, by decide, fun i i0 i1 => ⟨i, rfl, ?_⟩⟩
  have hi : i = 0 ∨ i = 1 := by omega
  rcases hi with rfl | rfl
  · exact tl_n0_4_1 g lst (.val (eN 1))
  · exact tl_n0_4_2 g lst (.val (eN 1))
theorem tl_n0_5_1 (g : Addr) (lst least : Sl) : nt7 g [.pt g, lst, .val (eN 7), .val (eN 1), .val (eN 6), .val (eN 1), .val (eN 5), .val (.list (ex_0_2_4.map eN)), least, .val (eN 1), .no, .no, .no, .no, .no, .no, .no, .no, .no, .no] (fun out => out = .rt (.bool true)) :=
  nested_tail (p := 7) (few := 1) (wide := 6) (many := 1) (inner := 5) (told := 1) (nums := nu_7_6_1) (used := ex_0_2_4) (small := sm0) nc0 ok0 i1_n0_5 i2_n0_5 tw_n0_5_1 (by decide) lf_n0_5_1 (far_ok (p := 7) (n := nu_7_6_1.length) (exps := ex_0) (S := bkS 7 nu_7_6_1 ex_0) (a := 0) (as := []) (d := 6) rfl (by decide +kernel) (ap_facts ok0 lots6 wb0 ap0).1 (ap_facts ok0 lots6 wb0 ap0).2 (by decide +kernel))
theorem tl_n0_5_2 (g : Addr) (lst least : Sl) : nt7 g [.pt g, lst, .val (eN 7), .val (eN 1), .val (eN 6), .val (eN 1), .val (eN 5), .val (.list (ex_0_2_4.map eN)), least, .val (eN 2), .no, .no, .no, .no, .no, .no, .no, .no, .no, .no] (fun out => out = .rt (.bool true)) :=
  nested_tail (p := 7) (few := 1) (wide := 6) (many := 1) (inner := 5) (told := 2) (nums := nu_7_6_1) (used := ex_0_2_4) (small := sm0) nc0 ok1 i1_n0_5 i2_n0_5 tw_n0_5_2 (by decide) lf_n0_5_2 (far_ok (p := 7) (n := nu_7_6_1.length) (exps := ex_0_2) (S := bkS 7 nu_7_6_1 ex_0_2) (a := 0) (as := [2]) (d := 4) rfl (by decide +kernel) (ap_facts ok1 lots6 wb1 ap1).1 (ap_facts ok1 lots6 wb1 ap1).2 (by decide +kernel))
theorem tl_n0_5_3 (g : Addr) (lst least : Sl) : nt7 g [.pt g, lst, .val (eN 7), .val (eN 1), .val (eN 6), .val (eN 1), .val (eN 5), .val (.list (ex_0_2_4.map eN)), least, .val (eN 3), .no, .no, .no, .no, .no, .no, .no, .no, .no, .no] (fun out => out = .rt (.bool true)) :=
  nested_tail (p := 7) (few := 1) (wide := 6) (many := 1) (inner := 5) (told := 3) (nums := nu_7_6_1) (used := ex_0_2_4) (small := sm0) nc0 ok2 i1_n0_5 i2_n0_5 tw_n0_5_3 (by decide) lf_n0_5_3 (far_ok (p := 7) (n := nu_7_6_1.length) (exps := ex_0_2_4) (S := bkS 7 nu_7_6_1 ex_0_2_4) (a := 0) (as := [2, 4]) (d := 2) rfl (by decide +kernel) (ap_facts ok2 lots6 wb2 ap2).1 (ap_facts ok2 lots6 wb2 ap2).2 (by decide +kernel))
theorem in_n0_5 (g : Addr) (lst : Sl) : wSeq (wP v4__law_nested_right) (wSeq (wP v5__law_nested_right) (wSeq v6__law_nested_right nt7)) g [.pt g, lst, .val (eN 7), .val (eN 1), .val (eN 6), .val (eN 1), .val (eN 5), .no, .no, .no, .no, .no, .no, .no, .no, .no, .no, .no, .no, .no] (fun out => out = .rt (.bool true)) := by
  refine wP_nx (r1 := [.pt g, lst, .val (eN 7), .val (eN 1), .val (eN 6), .val (eN 1), .val (eN 5), .val (.list (ex_0_2_4.map eN)), .no, .no, .no, .no, .no, .no, .no, .no, .no, .no, .no, .no]) (nfit0 5 g lst _ (by decide +kernel)) ?_
  refine wP_nx (r1 := [.pt g, lst, .val (eN 7), .val (eN 1), .val (eN 6), .val (eN 1), .val (eN 5), .val (.list (ex_0_2_4.map eN)), .val (eN 1), .no, .no, .no, .no, .no, .no, .no, .no, .no, .no, .no]) rfl ?_
  refine ⟨1, rfl, rfl, 3, rfl, by decide, by decide, fun i i0 i1 => ⟨i, rfl, ?_⟩⟩
  have hi : i = 0 ∨ i = 1 ∨ i = 2 := by omega
  rcases hi with rfl | rfl | rfl
  · exact tl_n0_5_1 g lst (.val (eN 1))
  · exact tl_n0_5_2 g lst (.val (eN 1))
  · exact tl_n0_5_3 g lst (.val (eN 1))
theorem tl_n0_6_1 (g : Addr) (lst least : Sl) : nt7 g [.pt g, lst, .val (eN 7), .val (eN 1), .val (eN 6), .val (eN 1), .val (eN 6), .val (.list (ex_0_2_4.map eN)), least, .val (eN 1), .no, .no, .no, .no, .no, .no, .no, .no, .no, .no] (fun out => out = .rt (.bool true)) :=
  nested_tail (p := 7) (few := 1) (wide := 6) (many := 1) (inner := 6) (told := 1) (nums := nu_7_6_1) (used := ex_0_2_4) (small := sm0) nc0 ok0 i1_n0_6 i2_n0_6 tw_n0_6_1 (by decide) lf_n0_6_1 (far_ok (p := 7) (n := nu_7_6_1.length) (exps := ex_0) (S := bkS 7 nu_7_6_1 ex_0) (a := 0) (as := []) (d := 6) rfl (by decide +kernel) (ap_facts ok0 lots6 wb0 ap0).1 (ap_facts ok0 lots6 wb0 ap0).2 (by decide +kernel))
theorem tl_n0_6_2 (g : Addr) (lst least : Sl) : nt7 g [.pt g, lst, .val (eN 7), .val (eN 1), .val (eN 6), .val (eN 1), .val (eN 6), .val (.list (ex_0_2_4.map eN)), least, .val (eN 2), .no, .no, .no, .no, .no, .no, .no, .no, .no, .no] (fun out => out = .rt (.bool true)) :=
  nested_tail (p := 7) (few := 1) (wide := 6) (many := 1) (inner := 6) (told := 2) (nums := nu_7_6_1) (used := ex_0_2_4) (small := sm0) nc0 ok1 i1_n0_6 i2_n0_6 tw_n0_6_2 (by decide) lf_n0_6_2 (far_ok (p := 7) (n := nu_7_6_1.length) (exps := ex_0_2) (S := bkS 7 nu_7_6_1 ex_0_2) (a := 0) (as := [2]) (d := 4) rfl (by decide +kernel) (ap_facts ok1 lots6 wb1 ap1).1 (ap_facts ok1 lots6 wb1 ap1).2 (by decide +kernel))
theorem tl_n0_6_3 (g : Addr) (lst least : Sl) : nt7 g [.pt g, lst, .val (eN 7), .val (eN 1), .val (eN 6), .val (eN 1), .val (eN 6), .val (.list (ex_0_2_4.map eN)), least, .val (eN 3), .no, .no, .no, .no, .no, .no, .no, .no, .no, .no] (fun out => out = .rt (.bool true)) :=
  nested_tail (p := 7) (few := 1) (wide := 6) (many := 1) (inner := 6) (told := 3) (nums := nu_7_6_1) (used := ex_0_2_4) (small := sm0) nc0 ok2 i1_n0_6 i2_n0_6 tw_n0_6_3 (by decide) lf_n0_6_3 (far_ok (p := 7) (n := nu_7_6_1.length) (exps := ex_0_2_4) (S := bkS 7 nu_7_6_1 ex_0_2_4) (a := 0) (as := [2, 4]) (d := 2) rfl (by decide +kernel) (ap_facts ok2 lots6 wb2 ap2).1 (ap_facts ok2 lots6 wb2 ap2).2 (by decide +kernel))
theorem in_n0_6 (g : Addr) (lst : Sl) : wSeq (wP v4__law_nested_right) (wSeq (wP v5__law_nested_right) (wSeq v6__law_nested_right nt7)) g [.pt g, lst, .val (eN 7), .val (eN 1), .val (eN 6), .val (eN 1), .val (eN 6), .no, .no, .no, .no, .no, .no, .no, .no, .no, .no, .no, .no, .no] (fun out => out = .rt (.bool true)) := by
  refine wP_nx (r1 := [.pt g, lst, .val (eN 7), .val (eN 1), .val (eN 6), .val (eN 1), .val (eN 6), .val (.list (ex_0_2_4.map eN)), .no, .no, .no, .no, .no, .no, .no, .no, .no, .no, .no, .no]) (nfit0 6 g lst _ (by decide +kernel)) ?_
  refine wP_nx (r1 := [.pt g, lst, .val (eN 7), .val (eN 1), .val (eN 6), .val (eN 1), .val (eN 6), .val (.list (ex_0_2_4.map eN)), .val (eN 1), .no, .no, .no, .no, .no, .no, .no, .no, .no, .no, .no]) rfl ?_
  refine ⟨1, rfl, rfl, 3, rfl, by decide, by decide, fun i i0 i1 => ⟨i, rfl, ?_⟩⟩
  have hi : i = 0 ∨ i = 1 ∨ i = 2 := by omega
  rcases hi with rfl | rfl | rfl
  · exact tl_n0_6_1 g lst (.val (eN 1))
  · exact tl_n0_6_2 g lst (.val (eN 1))
  · exact tl_n0_6_3 g lst (.val (eN 1))
theorem ch_n0 (g : Addr) (lst : Sl) : wSeq v3__law_nested_right (wSeq (wP v4__law_nested_right) (wSeq (wP v5__law_nested_right) (wSeq v6__law_nested_right nt7))) g [.pt g, lst, .val (eN 7), .val (eN 1), .val (eN 6), .val (eN 1), .val (eN 0), .no, .no, .no, .no, .no, .no, .no, .no, .no, .no, .no, .no, .no] (fun out => out = .rt (.bool true)) := by
  refine ⟨false, rfl, 1, rfl, rfl, 6, rfl, by decide, by decide, fun i i0 i1 => ⟨i, rfl, ?_⟩⟩
  have hi : i = 0 ∨ i = 1 ∨ i = 2 ∨ i = 3 ∨ i = 4 ∨ i = 5 := by omega
  rcases hi with rfl | rfl | rfl | rfl | rfl | rfl
  · exact in_n0_1 g lst
  · exact in_n0_2 g lst
  · exact in_n0_3 g lst
  · exact in_n0_4 g lst
  · exact in_n0_5 g lst
  · exact in_n0_6 g lst
theorem tl_n1_1_1 (g : Addr) (lst least : Sl) : nt7 g [.pt g, lst, .val (eN 13), .val (eN 2), .val (eN 6), .val (eN 1), .val (eN 1), .val (.list (ex_0.map eN)), least, .val (eN 1), .no, .no, .no, .no, .no, .no, .no, .no, .no, .no] (fun out => out = .rt (.bool true)) :=
  nested_tail (p := 13) (few := 2) (wide := 6) (many := 1) (inner := 1) (told := 1) (nums := nu_13_6_1) (used := ex_0) (small := sm1) nc1 ok3 i1_n1_1 i2_n1_1 tw_n1_1_1 (by decide) lf_n1_1_1 (far_ok (p := 13) (n := nu_13_6_1.length) (exps := ex_0) (S := bkS 13 nu_13_6_1 ex_0) (a := 0) (as := []) (d := 6) rfl (by decide +kernel) (ap_facts ok3 lots6 wb3 ap3).1 (ap_facts ok3 lots6 wb3 ap3).2 (by decide +kernel))
theorem in_n1_1 (g : Addr) (lst : Sl) : wSeq (wP v4__law_nested_right) (wSeq (wP v5__law_nested_right) (wSeq v6__law_nested_right nt7)) g [.pt g, lst, .val (eN 13), .val (eN 2), .val (eN 6), .val (eN 1), .val (eN 1), .no, .no, .no, .no, .no, .no, .no, .no, .no, .no, .no, .no, .no] (fun out => out = .rt (.bool true)) := by
  refine wP_nx (r1 := [.pt g, lst, .val (eN 13), .val (eN 2), .val (eN 6), .val (eN 1), .val (eN 1), .val (.list (ex_0.map eN)), .no, .no, .no, .no, .no, .no, .no, .no, .no, .no, .no, .no]) (nfit1 1 g lst _ (by decide +kernel)) ?_
  refine wP_nx (r1 := [.pt g, lst, .val (eN 13), .val (eN 2), .val (eN 6), .val (eN 1), .val (eN 1), .val (.list (ex_0.map eN)), .val (eN 1), .no, .no, .no, .no, .no, .no, .no, .no, .no, .no, .no]) rfl ?_
  refine ⟨1, rfl, rfl, 1, rfl, by decide, by decide, fun i i0 i1 => ⟨i, rfl, ?_⟩⟩
  have hi : i = 0 := by omega
  rcases hi with rfl
  · exact tl_n1_1_1 g lst (.val (eN 1))
theorem tl_n1_2_1 (g : Addr) (lst least : Sl) : nt7 g [.pt g, lst, .val (eN 13), .val (eN 2), .val (eN 6), .val (eN 1), .val (eN 2), .val (.list (ex_0_1.map eN)), least, .val (eN 1), .no, .no, .no, .no, .no, .no, .no, .no, .no, .no] (fun out => out = .rt (.bool true)) :=
  nested_tail (p := 13) (few := 2) (wide := 6) (many := 1) (inner := 2) (told := 1) (nums := nu_13_6_1) (used := ex_0_1) (small := sm1) nc1 ok3 i1_n1_2 i2_n1_2 tw_n1_2_1 (by decide) lf_n1_2_1 (far_ok (p := 13) (n := nu_13_6_1.length) (exps := ex_0) (S := bkS 13 nu_13_6_1 ex_0) (a := 0) (as := []) (d := 6) rfl (by decide +kernel) (ap_facts ok3 lots6 wb3 ap3).1 (ap_facts ok3 lots6 wb3 ap3).2 (by decide +kernel))
theorem tl_n1_2_2 (g : Addr) (lst least : Sl) : nt7 g [.pt g, lst, .val (eN 13), .val (eN 2), .val (eN 6), .val (eN 1), .val (eN 2), .val (.list (ex_0_1.map eN)), least, .val (eN 2), .no, .no, .no, .no, .no, .no, .no, .no, .no, .no] (fun out => out = .rt (.bool true)) :=
  nested_tail (p := 13) (few := 2) (wide := 6) (many := 1) (inner := 2) (told := 2) (nums := nu_13_6_1) (used := ex_0_1) (small := sm1) nc1 ok4 i1_n1_2 i2_n1_2 tw_n1_2_2 (by decide) lf_n1_2_2 (far_ok (p := 13) (n := nu_13_6_1.length) (exps := ex_0_1) (S := bkS 13 nu_13_6_1 ex_0_1) (a := 0) (as := [1]) (d := 5) rfl (by decide +kernel) (ap_facts ok4 lots6 wb4 ap4).1 (ap_facts ok4 lots6 wb4 ap4).2 (by decide +kernel))
theorem in_n1_2 (g : Addr) (lst : Sl) : wSeq (wP v4__law_nested_right) (wSeq (wP v5__law_nested_right) (wSeq v6__law_nested_right nt7)) g [.pt g, lst, .val (eN 13), .val (eN 2), .val (eN 6), .val (eN 1), .val (eN 2), .no, .no, .no, .no, .no, .no, .no, .no, .no, .no, .no, .no, .no] (fun out => out = .rt (.bool true)) := by
  refine wP_nx (r1 := [.pt g, lst, .val (eN 13), .val (eN 2), .val (eN 6), .val (eN 1), .val (eN 2), .val (.list (ex_0_1.map eN)), .no, .no, .no, .no, .no, .no, .no, .no, .no, .no, .no, .no]) (nfit1 2 g lst _ (by decide +kernel)) ?_
  refine wP_nx (r1 := [.pt g, lst, .val (eN 13), .val (eN 2), .val (eN 6), .val (eN 1), .val (eN 2), .val (.list (ex_0_1.map eN)), .val (eN 1), .no, .no, .no, .no, .no, .no, .no, .no, .no, .no, .no]) rfl ?_
  refine ⟨1, rfl, rfl, 2, rfl, by decide, by decide, fun i i0 i1 => ⟨i, rfl, ?_⟩⟩
  have hi : i = 0 ∨ i = 1 := by omega
  rcases hi with rfl | rfl
  · exact tl_n1_2_1 g lst (.val (eN 1))
  · exact tl_n1_2_2 g lst (.val (eN 1))
theorem tl_n1_3_1 (g : Addr) (lst least : Sl) : nt7 g [.pt g, lst, .val (eN 13), .val (eN 2), .val (eN 6), .val (eN 1), .val (eN 3), .val (.list (ex_0_1.map eN)), least, .val (eN 1), .no, .no, .no, .no, .no, .no, .no, .no, .no, .no] (fun out => out = .rt (.bool true)) :=
  nested_tail (p := 13) (few := 2) (wide := 6) (many := 1) (inner := 3) (told := 1) (nums := nu_13_6_1) (used := ex_0_1) (small := sm1) nc1 ok3 i1_n1_3 i2_n1_3 tw_n1_3_1 (by decide) lf_n1_3_1 (far_ok (p := 13) (n := nu_13_6_1.length) (exps := ex_0) (S := bkS 13 nu_13_6_1 ex_0) (a := 0) (as := []) (d := 6) rfl (by decide +kernel) (ap_facts ok3 lots6 wb3 ap3).1 (ap_facts ok3 lots6 wb3 ap3).2 (by decide +kernel))
theorem tl_n1_3_2 (g : Addr) (lst least : Sl) : nt7 g [.pt g, lst, .val (eN 13), .val (eN 2), .val (eN 6), .val (eN 1), .val (eN 3), .val (.list (ex_0_1.map eN)), least, .val (eN 2), .no, .no, .no, .no, .no, .no, .no, .no, .no, .no] (fun out => out = .rt (.bool true)) :=
  nested_tail (p := 13) (few := 2) (wide := 6) (many := 1) (inner := 3) (told := 2) (nums := nu_13_6_1) (used := ex_0_1) (small := sm1) nc1 ok4 i1_n1_3 i2_n1_3 tw_n1_3_2 (by decide) lf_n1_3_2 (far_ok (p := 13) (n := nu_13_6_1.length) (exps := ex_0_1) (S := bkS 13 nu_13_6_1 ex_0_1) (a := 0) (as := [1]) (d := 5) rfl (by decide +kernel) (ap_facts ok4 lots6 wb4 ap4).1 (ap_facts ok4 lots6 wb4 ap4).2 (by decide +kernel))
theorem in_n1_3 (g : Addr) (lst : Sl) : wSeq (wP v4__law_nested_right) (wSeq (wP v5__law_nested_right) (wSeq v6__law_nested_right nt7)) g [.pt g, lst, .val (eN 13), .val (eN 2), .val (eN 6), .val (eN 1), .val (eN 3), .no, .no, .no, .no, .no, .no, .no, .no, .no, .no, .no, .no, .no] (fun out => out = .rt (.bool true)) := by
  refine wP_nx (r1 := [.pt g, lst, .val (eN 13), .val (eN 2), .val (eN 6), .val (eN 1), .val (eN 3), .val (.list (ex_0_1.map eN)), .no, .no, .no, .no, .no, .no, .no, .no, .no, .no, .no, .no]) (nfit1 3 g lst _ (by decide +kernel)) ?_
  refine wP_nx (r1 := [.pt g, lst, .val (eN 13), .val (eN 2), .val (eN 6), .val (eN 1), .val (eN 3), .val (.list (ex_0_1.map eN)), .val (eN 1), .no, .no, .no, .no, .no, .no, .no, .no, .no, .no, .no]) rfl ?_
  refine ⟨1, rfl, rfl, 2, rfl, by decide, by decide, fun i i0 i1 => ⟨i, rfl, ?_⟩⟩
  have hi : i = 0 ∨ i = 1 := by omega
  rcases hi with rfl | rfl
  · exact tl_n1_3_1 g lst (.val (eN 1))
  · exact tl_n1_3_2 g lst (.val (eN 1))
theorem tl_n1_4_1 (g : Addr) (lst least : Sl) : nt7 g [.pt g, lst, .val (eN 13), .val (eN 2), .val (eN 6), .val (eN 1), .val (eN 4), .val (.list (ex_0_1_3.map eN)), least, .val (eN 1), .no, .no, .no, .no, .no, .no, .no, .no, .no, .no] (fun out => out = .rt (.bool true)) :=
  nested_tail (p := 13) (few := 2) (wide := 6) (many := 1) (inner := 4) (told := 1) (nums := nu_13_6_1) (used := ex_0_1_3) (small := sm1) nc1 ok3 i1_n1_4 i2_n1_4 tw_n1_4_1 (by decide) lf_n1_4_1 (far_ok (p := 13) (n := nu_13_6_1.length) (exps := ex_0) (S := bkS 13 nu_13_6_1 ex_0) (a := 0) (as := []) (d := 6) rfl (by decide +kernel) (ap_facts ok3 lots6 wb3 ap3).1 (ap_facts ok3 lots6 wb3 ap3).2 (by decide +kernel))
theorem tl_n1_4_2 (g : Addr) (lst least : Sl) : nt7 g [.pt g, lst, .val (eN 13), .val (eN 2), .val (eN 6), .val (eN 1), .val (eN 4), .val (.list (ex_0_1_3.map eN)), least, .val (eN 2), .no, .no, .no, .no, .no, .no, .no, .no, .no, .no] (fun out => out = .rt (.bool true)) :=
  nested_tail (p := 13) (few := 2) (wide := 6) (many := 1) (inner := 4) (told := 2) (nums := nu_13_6_1) (used := ex_0_1_3) (small := sm1) nc1 ok4 i1_n1_4 i2_n1_4 tw_n1_4_2 (by decide) lf_n1_4_2 (far_ok (p := 13) (n := nu_13_6_1.length) (exps := ex_0_1) (S := bkS 13 nu_13_6_1 ex_0_1) (a := 0) (as := [1]) (d := 5) rfl (by decide +kernel) (ap_facts ok4 lots6 wb4 ap4).1 (ap_facts ok4 lots6 wb4 ap4).2 (by decide +kernel))
theorem tl_n1_4_3 (g : Addr) (lst least : Sl) : nt7 g [.pt g, lst, .val (eN 13), .val (eN 2), .val (eN 6), .val (eN 1), .val (eN 4), .val (.list (ex_0_1_3.map eN)), least, .val (eN 3), .no, .no, .no, .no, .no, .no, .no, .no, .no, .no] (fun out => out = .rt (.bool true)) :=
  nested_tail (p := 13) (few := 2) (wide := 6) (many := 1) (inner := 4) (told := 3) (nums := nu_13_6_1) (used := ex_0_1_3) (small := sm1) nc1 ok5 i1_n1_4 i2_n1_4 tw_n1_4_3 (by decide) lf_n1_4_3 (far_ok (p := 13) (n := nu_13_6_1.length) (exps := ex_0_1_3) (S := bkS 13 nu_13_6_1 ex_0_1_3) (a := 0) (as := [1, 3]) (d := 3) rfl (by decide +kernel) (ap_facts ok5 lots6 wb5 ap5).1 (ap_facts ok5 lots6 wb5 ap5).2 (by decide +kernel))
theorem in_n1_4 (g : Addr) (lst : Sl) : wSeq (wP v4__law_nested_right) (wSeq (wP v5__law_nested_right) (wSeq v6__law_nested_right nt7)) g [.pt g, lst, .val (eN 13), .val (eN 2), .val (eN 6), .val (eN 1), .val (eN 4), .no, .no, .no, .no, .no, .no, .no, .no, .no, .no, .no, .no, .no] (fun out => out = .rt (.bool true)) := by
  refine wP_nx (r1 := [.pt g, lst, .val (eN 13), .val (eN 2), .val (eN 6), .val (eN 1), .val (eN 4), .val (.list (ex_0_1_3.map eN)), .no, .no, .no, .no, .no, .no, .no, .no, .no, .no, .no, .no]) (nfit1 4 g lst _ (by decide +kernel)) ?_
  refine wP_nx (r1 := [.pt g, lst, .val (eN 13), .val (eN 2), .val (eN 6), .val (eN 1), .val (eN 4), .val (.list (ex_0_1_3.map eN)), .val (eN 1), .no, .no, .no, .no, .no, .no, .no, .no, .no, .no, .no]) rfl ?_
  refine ⟨1, rfl, rfl, 3, rfl, by decide, by decide, fun i i0 i1 => ⟨i, rfl, ?_⟩⟩
  have hi : i = 0 ∨ i = 1 ∨ i = 2 := by omega
  rcases hi with rfl | rfl | rfl
  · exact tl_n1_4_1 g lst (.val (eN 1))
  · exact tl_n1_4_2 g lst (.val (eN 1))
  · exact tl_n1_4_3 g lst (.val (eN 1))
theorem tl_n1_5_1 (g : Addr) (lst least : Sl) : nt7 g [.pt g, lst, .val (eN 13), .val (eN 2), .val (eN 6), .val (eN 1), .val (eN 5), .val (.list (ex_0_1_3_4.map eN)), least, .val (eN 1), .no, .no, .no, .no, .no, .no, .no, .no, .no, .no] (fun out => out = .rt (.bool true)) :=
  nested_tail (p := 13) (few := 2) (wide := 6) (many := 1) (inner := 5) (told := 1) (nums := nu_13_6_1) (used := ex_0_1_3_4) (small := sm1) nc1 ok3 i1_n1_5 i2_n1_5 tw_n1_5_1 (by decide) lf_n1_5_1 (far_ok (p := 13) (n := nu_13_6_1.length) (exps := ex_0) (S := bkS 13 nu_13_6_1 ex_0) (a := 0) (as := []) (d := 6) rfl (by decide +kernel) (ap_facts ok3 lots6 wb3 ap3).1 (ap_facts ok3 lots6 wb3 ap3).2 (by decide +kernel))
theorem tl_n1_5_2 (g : Addr) (lst least : Sl) : nt7 g [.pt g, lst, .val (eN 13), .val (eN 2), .val (eN 6), .val (eN 1), .val (eN 5), .val (.list (ex_0_1_3_4.map eN)), least, .val (eN 2), .no, .no, .no, .no, .no, .no, .no, .no, .no, .no] (fun out => out = .rt (.bool true)) :=
  nested_tail (p := 13) (few := 2) (wide := 6) (many := 1) (inner := 5) (told := 2) (nums := nu_13_6_1) (used := ex_0_1_3_4) (small := sm1) nc1 ok4 i1_n1_5 i2_n1_5 tw_n1_5_2 (by decide) lf_n1_5_2 (far_ok (p := 13) (n := nu_13_6_1.length) (exps := ex_0_1) (S := bkS 13 nu_13_6_1 ex_0_1) (a := 0) (as := [1]) (d := 5) rfl (by decide +kernel) (ap_facts ok4 lots6 wb4 ap4).1 (ap_facts ok4 lots6 wb4 ap4).2 (by decide +kernel))
theorem tl_n1_5_3 (g : Addr) (lst least : Sl) : nt7 g [.pt g, lst, .val (eN 13), .val (eN 2), .val (eN 6), .val (eN 1), .val (eN 5), .val (.list (ex_0_1_3_4.map eN)), least, .val (eN 3), .no, .no, .no, .no, .no, .no, .no, .no, .no, .no] (fun out => out = .rt (.bool true)) :=
  nested_tail (p := 13) (few := 2) (wide := 6) (many := 1) (inner := 5) (told := 3) (nums := nu_13_6_1) (used := ex_0_1_3_4) (small := sm1) nc1 ok5 i1_n1_5 i2_n1_5 tw_n1_5_3 (by decide) lf_n1_5_3 (far_ok (p := 13) (n := nu_13_6_1.length) (exps := ex_0_1_3) (S := bkS 13 nu_13_6_1 ex_0_1_3) (a := 0) (as := [1, 3]) (d := 3) rfl (by decide +kernel) (ap_facts ok5 lots6 wb5 ap5).1 (ap_facts ok5 lots6 wb5 ap5).2 (by decide +kernel))
theorem tl_n1_5_4 (g : Addr) (lst least : Sl) : nt7 g [.pt g, lst, .val (eN 13), .val (eN 2), .val (eN 6), .val (eN 1), .val (eN 5), .val (.list (ex_0_1_3_4.map eN)), least, .val (eN 4), .no, .no, .no, .no, .no, .no, .no, .no, .no, .no] (fun out => out = .rt (.bool true)) :=
  nested_tail (p := 13) (few := 2) (wide := 6) (many := 1) (inner := 5) (told := 4) (nums := nu_13_6_1) (used := ex_0_1_3_4) (small := sm1) nc1 ok6 i1_n1_5 i2_n1_5 tw_n1_5_4 (by decide) lf_n1_5_4 (far_ok (p := 13) (n := nu_13_6_1.length) (exps := ex_0_1_3_4) (S := bkS 13 nu_13_6_1 ex_0_1_3_4) (a := 0) (as := [1, 3, 4]) (d := 2) rfl (by decide +kernel) (ap_facts ok6 lots6 wb6 ap6).1 (ap_facts ok6 lots6 wb6 ap6).2 (by decide +kernel))
theorem in_n1_5 (g : Addr) (lst : Sl) : wSeq (wP v4__law_nested_right) (wSeq (wP v5__law_nested_right) (wSeq v6__law_nested_right nt7)) g [.pt g, lst, .val (eN 13), .val (eN 2), .val (eN 6), .val (eN 1), .val (eN 5), .no, .no, .no, .no, .no, .no, .no, .no, .no, .no, .no, .no, .no] (fun out => out = .rt (.bool true)) := by
  refine wP_nx (r1 := [.pt g, lst, .val (eN 13), .val (eN 2), .val (eN 6), .val (eN 1), .val (eN 5), .val (.list (ex_0_1_3_4.map eN)), .no, .no, .no, .no, .no, .no, .no, .no, .no, .no, .no, .no]) (nfit1 5 g lst _ (by decide +kernel)) ?_
  refine wP_nx (r1 := [.pt g, lst, .val (eN 13), .val (eN 2), .val (eN 6), .val (eN 1), .val (eN 5), .val (.list (ex_0_1_3_4.map eN)), .val (eN 1), .no, .no, .no, .no, .no, .no, .no, .no, .no, .no, .no]) rfl ?_
  refine ⟨1, rfl, rfl, 4, rfl, by decide, by decide, fun i i0 i1 => ⟨i, rfl, ?_⟩⟩
  have hi : i = 0 ∨ i = 1 ∨ i = 2 ∨ i = 3 := by omega
  rcases hi with rfl | rfl | rfl | rfl
  · exact tl_n1_5_1 g lst (.val (eN 1))
  · exact tl_n1_5_2 g lst (.val (eN 1))
  · exact tl_n1_5_3 g lst (.val (eN 1))
  · exact tl_n1_5_4 g lst (.val (eN 1))
theorem tl_n1_6_1 (g : Addr) (lst least : Sl) : nt7 g [.pt g, lst, .val (eN 13), .val (eN 2), .val (eN 6), .val (eN 1), .val (eN 6), .val (.list (ex_0_1_3_4.map eN)), least, .val (eN 1), .no, .no, .no, .no, .no, .no, .no, .no, .no, .no] (fun out => out = .rt (.bool true)) :=
  nested_tail (p := 13) (few := 2) (wide := 6) (many := 1) (inner := 6) (told := 1) (nums := nu_13_6_1) (used := ex_0_1_3_4) (small := sm1) nc1 ok3 i1_n1_6 i2_n1_6 tw_n1_6_1 (by decide) lf_n1_6_1 (far_ok (p := 13) (n := nu_13_6_1.length) (exps := ex_0) (S := bkS 13 nu_13_6_1 ex_0) (a := 0) (as := []) (d := 6) rfl (by decide +kernel) (ap_facts ok3 lots6 wb3 ap3).1 (ap_facts ok3 lots6 wb3 ap3).2 (by decide +kernel))
theorem tl_n1_6_2 (g : Addr) (lst least : Sl) : nt7 g [.pt g, lst, .val (eN 13), .val (eN 2), .val (eN 6), .val (eN 1), .val (eN 6), .val (.list (ex_0_1_3_4.map eN)), least, .val (eN 2), .no, .no, .no, .no, .no, .no, .no, .no, .no, .no] (fun out => out = .rt (.bool true)) :=
  nested_tail (p := 13) (few := 2) (wide := 6) (many := 1) (inner := 6) (told := 2) (nums := nu_13_6_1) (used := ex_0_1_3_4) (small := sm1) nc1 ok4 i1_n1_6 i2_n1_6 tw_n1_6_2 (by decide) lf_n1_6_2 (far_ok (p := 13) (n := nu_13_6_1.length) (exps := ex_0_1) (S := bkS 13 nu_13_6_1 ex_0_1) (a := 0) (as := [1]) (d := 5) rfl (by decide +kernel) (ap_facts ok4 lots6 wb4 ap4).1 (ap_facts ok4 lots6 wb4 ap4).2 (by decide +kernel))
theorem tl_n1_6_3 (g : Addr) (lst least : Sl) : nt7 g [.pt g, lst, .val (eN 13), .val (eN 2), .val (eN 6), .val (eN 1), .val (eN 6), .val (.list (ex_0_1_3_4.map eN)), least, .val (eN 3), .no, .no, .no, .no, .no, .no, .no, .no, .no, .no] (fun out => out = .rt (.bool true)) :=
  nested_tail (p := 13) (few := 2) (wide := 6) (many := 1) (inner := 6) (told := 3) (nums := nu_13_6_1) (used := ex_0_1_3_4) (small := sm1) nc1 ok5 i1_n1_6 i2_n1_6 tw_n1_6_3 (by decide) lf_n1_6_3 (far_ok (p := 13) (n := nu_13_6_1.length) (exps := ex_0_1_3) (S := bkS 13 nu_13_6_1 ex_0_1_3) (a := 0) (as := [1, 3]) (d := 3) rfl (by decide +kernel) (ap_facts ok5 lots6 wb5 ap5).1 (ap_facts ok5 lots6 wb5 ap5).2 (by decide +kernel))
theorem tl_n1_6_4 (g : Addr) (lst least : Sl) : nt7 g [.pt g, lst, .val (eN 13), .val (eN 2), .val (eN 6), .val (eN 1), .val (eN 6), .val (.list (ex_0_1_3_4.map eN)), least, .val (eN 4), .no, .no, .no, .no, .no, .no, .no, .no, .no, .no] (fun out => out = .rt (.bool true)) :=
  nested_tail (p := 13) (few := 2) (wide := 6) (many := 1) (inner := 6) (told := 4) (nums := nu_13_6_1) (used := ex_0_1_3_4) (small := sm1) nc1 ok6 i1_n1_6 i2_n1_6 tw_n1_6_4 (by decide) lf_n1_6_4 (far_ok (p := 13) (n := nu_13_6_1.length) (exps := ex_0_1_3_4) (S := bkS 13 nu_13_6_1 ex_0_1_3_4) (a := 0) (as := [1, 3, 4]) (d := 2) rfl (by decide +kernel) (ap_facts ok6 lots6 wb6 ap6).1 (ap_facts ok6 lots6 wb6 ap6).2 (by decide +kernel))
theorem in_n1_6 (g : Addr) (lst : Sl) : wSeq (wP v4__law_nested_right) (wSeq (wP v5__law_nested_right) (wSeq v6__law_nested_right nt7)) g [.pt g, lst, .val (eN 13), .val (eN 2), .val (eN 6), .val (eN 1), .val (eN 6), .no, .no, .no, .no, .no, .no, .no, .no, .no, .no, .no, .no, .no] (fun out => out = .rt (.bool true)) := by
  refine wP_nx (r1 := [.pt g, lst, .val (eN 13), .val (eN 2), .val (eN 6), .val (eN 1), .val (eN 6), .val (.list (ex_0_1_3_4.map eN)), .no, .no, .no, .no, .no, .no, .no, .no, .no, .no, .no, .no]) (nfit1 6 g lst _ (by decide +kernel)) ?_
  refine wP_nx (r1 := [.pt g, lst, .val (eN 13), .val (eN 2), .val (eN 6), .val (eN 1), .val (eN 6), .val (.list (ex_0_1_3_4.map eN)), .val (eN 1), .no, .no, .no, .no, .no, .no, .no, .no, .no, .no, .no]) rfl ?_
  refine ⟨1, rfl, rfl, 4, rfl, by decide, by decide, fun i i0 i1 => ⟨i, rfl, ?_⟩⟩
  have hi : i = 0 ∨ i = 1 ∨ i = 2 ∨ i = 3 := by omega
  rcases hi with rfl | rfl | rfl | rfl
  · exact tl_n1_6_1 g lst (.val (eN 1))
  · exact tl_n1_6_2 g lst (.val (eN 1))
  · exact tl_n1_6_3 g lst (.val (eN 1))
  · exact tl_n1_6_4 g lst (.val (eN 1))
theorem ch_n1 (g : Addr) (lst : Sl) : wSeq v3__law_nested_right (wSeq (wP v4__law_nested_right) (wSeq (wP v5__law_nested_right) (wSeq v6__law_nested_right nt7))) g [.pt g, lst, .val (eN 13), .val (eN 2), .val (eN 6), .val (eN 1), .val (eN 0), .no, .no, .no, .no, .no, .no, .no, .no, .no, .no, .no, .no, .no] (fun out => out = .rt (.bool true)) := by
  refine ⟨false, rfl, 1, rfl, rfl, 6, rfl, by decide, by decide, fun i i0 i1 => ⟨i, rfl, ?_⟩⟩
  have hi : i = 0 ∨ i = 1 ∨ i = 2 ∨ i = 3 ∨ i = 4 ∨ i = 5 := by omega
  rcases hi with rfl | rfl | rfl | rfl | rfl | rfl
  · exact in_n1_1 g lst
  · exact in_n1_2 g lst
  · exact in_n1_3 g lst
  · exact in_n1_4 g lst
  · exact in_n1_5 g lst
  · exact in_n1_6 g lst
theorem tl_n2_1_1 (g : Addr) (lst least : Sl) : nt7 g [.pt g, lst, .val (eN 19), .val (eN 2), .val (eN 6), .val (eN 1), .val (eN 1), .val (.list (ex_0.map eN)), least, .val (eN 1), .no, .no, .no, .no, .no, .no, .no, .no, .no, .no] (fun out => out = .rt (.bool true)) :=
  nested_tail (p := 19) (few := 2) (wide := 6) (many := 1) (inner := 1) (told := 1) (nums := nu_19_6_1) (used := ex_0) (small := sm2) nc2 ok7 i1_n2_1 i2_n2_1 tw_n2_1_1 (by decide) lf_n2_1_1 (far_ok (p := 19) (n := nu_19_6_1.length) (exps := ex_0) (S := bkS 19 nu_19_6_1 ex_0) (a := 0) (as := []) (d := 6) rfl (by decide +kernel) (ap_facts ok7 lots6 wb7 ap7).1 (ap_facts ok7 lots6 wb7 ap7).2 (by decide +kernel))
theorem in_n2_1 (g : Addr) (lst : Sl) : wSeq (wP v4__law_nested_right) (wSeq (wP v5__law_nested_right) (wSeq v6__law_nested_right nt7)) g [.pt g, lst, .val (eN 19), .val (eN 2), .val (eN 6), .val (eN 1), .val (eN 1), .no, .no, .no, .no, .no, .no, .no, .no, .no, .no, .no, .no, .no] (fun out => out = .rt (.bool true)) := by
  refine wP_nx (r1 := [.pt g, lst, .val (eN 19), .val (eN 2), .val (eN 6), .val (eN 1), .val (eN 1), .val (.list (ex_0.map eN)), .no, .no, .no, .no, .no, .no, .no, .no, .no, .no, .no, .no]) (nfit2 1 g lst _ (by decide +kernel)) ?_
  refine wP_nx (r1 := [.pt g, lst, .val (eN 19), .val (eN 2), .val (eN 6), .val (eN 1), .val (eN 1), .val (.list (ex_0.map eN)), .val (eN 1), .no, .no, .no, .no, .no, .no, .no, .no, .no, .no, .no]) rfl ?_
  refine ⟨1, rfl, rfl, 1, rfl, by decide, by decide, fun i i0 i1 => ⟨i, rfl, ?_⟩⟩
  have hi : i = 0 := by omega
  rcases hi with rfl
  · exact tl_n2_1_1 g lst (.val (eN 1))
theorem tl_n2_2_1 (g : Addr) (lst least : Sl) : nt7 g [.pt g, lst, .val (eN 19), .val (eN 2), .val (eN 6), .val (eN 1), .val (eN 2), .val (.list (ex_0_1.map eN)), least, .val (eN 1), .no, .no, .no, .no, .no, .no, .no, .no, .no, .no] (fun out => out = .rt (.bool true)) :=
  nested_tail (p := 19) (few := 2) (wide := 6) (many := 1) (inner := 2) (told := 1) (nums := nu_19_6_1) (used := ex_0_1) (small := sm2) nc2 ok7 i1_n2_2 i2_n2_2 tw_n2_2_1 (by decide) lf_n2_2_1 (far_ok (p := 19) (n := nu_19_6_1.length) (exps := ex_0) (S := bkS 19 nu_19_6_1 ex_0) (a := 0) (as := []) (d := 6) rfl (by decide +kernel) (ap_facts ok7 lots6 wb7 ap7).1 (ap_facts ok7 lots6 wb7 ap7).2 (by decide +kernel))
theorem tl_n2_2_2 (g : Addr) (lst least : Sl) : nt7 g [.pt g, lst, .val (eN 19), .val (eN 2), .val (eN 6), .val (eN 1), .val (eN 2), .val (.list (ex_0_1.map eN)), least, .val (eN 2), .no, .no, .no, .no, .no, .no, .no, .no, .no, .no] (fun out => out = .rt (.bool true)) :=
  nested_tail (p := 19) (few := 2) (wide := 6) (many := 1) (inner := 2) (told := 2) (nums := nu_19_6_1) (used := ex_0_1) (small := sm2) nc2 ok8 i1_n2_2 i2_n2_2 tw_n2_2_2 (by decide) lf_n2_2_2 (far_ok (p := 19) (n := nu_19_6_1.length) (exps := ex_0_1) (S := bkS 19 nu_19_6_1 ex_0_1) (a := 0) (as := [1]) (d := 5) rfl (by decide +kernel) (ap_facts ok8 lots6 wb8 ap8).1 (ap_facts ok8 lots6 wb8 ap8).2 (by decide +kernel))
theorem in_n2_2 (g : Addr) (lst : Sl) : wSeq (wP v4__law_nested_right) (wSeq (wP v5__law_nested_right) (wSeq v6__law_nested_right nt7)) g [.pt g, lst, .val (eN 19), .val (eN 2), .val (eN 6), .val (eN 1), .val (eN 2), .no, .no, .no, .no, .no, .no, .no, .no, .no, .no, .no, .no, .no] (fun out => out = .rt (.bool true)) := by
  refine wP_nx (r1 := [.pt g, lst, .val (eN 19), .val (eN 2), .val (eN 6), .val (eN 1), .val (eN 2), .val (.list (ex_0_1.map eN)), .no, .no, .no, .no, .no, .no, .no, .no, .no, .no, .no, .no]) (nfit2 2 g lst _ (by decide +kernel)) ?_
  refine wP_nx (r1 := [.pt g, lst, .val (eN 19), .val (eN 2), .val (eN 6), .val (eN 1), .val (eN 2), .val (.list (ex_0_1.map eN)), .val (eN 1), .no, .no, .no, .no, .no, .no, .no, .no, .no, .no, .no]) rfl ?_
  refine ⟨1, rfl, rfl, 2, rfl, by decide, by decide, fun i i0 i1 => ⟨i, rfl, ?_⟩⟩
  have hi : i = 0 ∨ i = 1 := by omega
  rcases hi with rfl | rfl
  · exact tl_n2_2_1 g lst (.val (eN 1))
  · exact tl_n2_2_2 g lst (.val (eN 1))
theorem tl_n2_3_1 (g : Addr) (lst least : Sl) : nt7 g [.pt g, lst, .val (eN 19), .val (eN 2), .val (eN 6), .val (eN 1), .val (eN 3), .val (.list (ex_0_1.map eN)), least, .val (eN 1), .no, .no, .no, .no, .no, .no, .no, .no, .no, .no] (fun out => out = .rt (.bool true)) :=
  nested_tail (p := 19) (few := 2) (wide := 6) (many := 1) (inner := 3) (told := 1) (nums := nu_19_6_1) (used := ex_0_1) (small := sm2) nc2 ok7 i1_n2_3 i2_n2_3 tw_n2_3_1 (by decide) lf_n2_3_1 (far_ok (p := 19) (n := nu_19_6_1.length) (exps := ex_0) (S := bkS 19 nu_19_6_1 ex_0) (a := 0) (as := []) (d := 6) rfl (by decide +kernel) (ap_facts ok7 lots6 wb7 ap7).1 (ap_facts ok7 lots6 wb7 ap7).2 (by decide +kernel))
theorem tl_n2_3_2 (g : Addr) (lst least : Sl) : nt7 g [.pt g, lst, .val (eN 19), .val (eN 2), .val (eN 6), .val (eN 1), .val (eN 3), .val (.list (ex_0_1.map eN)), least, .val (eN 2), .no, .no, .no, .no, .no, .no, .no, .no, .no, .no] (fun out => out = .rt (.bool true)) :=
  nested_tail (p := 19) (few := 2) (wide := 6) (many := 1) (inner := 3) (told := 2) (nums := nu_19_6_1) (used := ex_0_1) (small := sm2) nc2 ok8 i1_n2_3 i2_n2_3 tw_n2_3_2 (by decide) lf_n2_3_2 (far_ok (p := 19) (n := nu_19_6_1.length) (exps := ex_0_1) (S := bkS 19 nu_19_6_1 ex_0_1) (a := 0) (as := [1]) (d := 5) rfl (by decide +kernel) (ap_facts ok8 lots6 wb8 ap8).1 (ap_facts ok8 lots6 wb8 ap8).2 (by decide +kernel))
theorem in_n2_3 (g : Addr) (lst : Sl) : wSeq (wP v4__law_nested_right) (wSeq (wP v5__law_nested_right) (wSeq v6__law_nested_right nt7)) g [.pt g, lst, .val (eN 19), .val (eN 2), .val (eN 6), .val (eN 1), .val (eN 3), .no, .no, .no, .no, .no, .no, .no, .no, .no, .no, .no, .no, .no] (fun out => out = .rt (.bool true)) := by
  refine wP_nx (r1 := [.pt g, lst, .val (eN 19), .val (eN 2), .val (eN 6), .val (eN 1), .val (eN 3), .val (.list (ex_0_1.map eN)), .no, .no, .no, .no, .no, .no, .no, .no, .no, .no, .no, .no]) (nfit2 3 g lst _ (by decide +kernel)) ?_
  refine wP_nx (r1 := [.pt g, lst, .val (eN 19), .val (eN 2), .val (eN 6), .val (eN 1), .val (eN 3), .val (.list (ex_0_1.map eN)), .val (eN 1), .no, .no, .no, .no, .no, .no, .no, .no, .no, .no, .no]) rfl ?_
  refine ⟨1, rfl, rfl, 2, rfl, by decide, by decide, fun i i0 i1 => ⟨i, rfl, ?_⟩⟩
  have hi : i = 0 ∨ i = 1 := by omega
  rcases hi with rfl | rfl
  · exact tl_n2_3_1 g lst (.val (eN 1))
  · exact tl_n2_3_2 g lst (.val (eN 1))
theorem tl_n2_4_1 (g : Addr) (lst least : Sl) : nt7 g [.pt g, lst, .val (eN 19), .val (eN 2), .val (eN 6), .val (eN 1), .val (eN 4), .val (.list (ex_0_1_3.map eN)), least, .val (eN 1), .no, .no, .no, .no, .no, .no, .no, .no, .no, .no] (fun out => out = .rt (.bool true)) :=
  nested_tail (p := 19) (few := 2) (wide := 6) (many := 1) (inner := 4) (told := 1) (nums := nu_19_6_1) (used := ex_0_1_3) (small := sm2) nc2 ok7 i1_n2_4 i2_n2_4 tw_n2_4_1 (by decide) lf_n2_4_1 (far_ok (p := 19) (n := nu_19_6_1.length) (exps := ex_0) (S := bkS 19 nu_19_6_1 ex_0) (a := 0) (as := []) (d := 6) rfl (by decide +kernel) (ap_facts ok7 lots6 wb7 ap7).1 (ap_facts ok7 lots6 wb7 ap7).2 (by decide +kernel))
theorem tl_n2_4_2 (g : Addr) (lst least : Sl) : nt7 g [.pt g, lst, .val (eN 19), .val (eN 2), .val (eN 6), .val (eN 1), .val (eN 4), .val (.list (ex_0_1_3.map eN)), least, .val (eN 2), .no, .no, .no, .no, .no, .no, .no, .no, .no, .no] (fun out => out = .rt (.bool true)) :=
  nested_tail (p := 19) (few := 2) (wide := 6) (many := 1) (inner := 4) (told := 2) (nums := nu_19_6_1) (used := ex_0_1_3) (small := sm2) nc2 ok8 i1_n2_4 i2_n2_4 tw_n2_4_2 (by decide) lf_n2_4_2 (far_ok (p := 19) (n := nu_19_6_1.length) (exps := ex_0_1) (S := bkS 19 nu_19_6_1 ex_0_1) (a := 0) (as := [1]) (d := 5) rfl (by decide +kernel) (ap_facts ok8 lots6 wb8 ap8).1 (ap_facts ok8 lots6 wb8 ap8).2 (by decide +kernel))
theorem tl_n2_4_3 (g : Addr) (lst least : Sl) : nt7 g [.pt g, lst, .val (eN 19), .val (eN 2), .val (eN 6), .val (eN 1), .val (eN 4), .val (.list (ex_0_1_3.map eN)), least, .val (eN 3), .no, .no, .no, .no, .no, .no, .no, .no, .no, .no] (fun out => out = .rt (.bool true)) :=
  nested_tail (p := 19) (few := 2) (wide := 6) (many := 1) (inner := 4) (told := 3) (nums := nu_19_6_1) (used := ex_0_1_3) (small := sm2) nc2 ok9 i1_n2_4 i2_n2_4 tw_n2_4_3 (by decide) lf_n2_4_3 (far_ok (p := 19) (n := nu_19_6_1.length) (exps := ex_0_1_3) (S := bkS 19 nu_19_6_1 ex_0_1_3) (a := 0) (as := [1, 3]) (d := 3) rfl (by decide +kernel) (ap_facts ok9 lots6 wb9 ap9).1 (ap_facts ok9 lots6 wb9 ap9).2 (by decide +kernel))
theorem in_n2_4 (g : Addr) (lst : Sl) : wSeq (wP v4__law_nested_right) (wSeq (wP v5__law_nested_right) (wSeq v6__law_nested_right nt7)) g [.pt g, lst, .val (eN 19), .val (eN 2), .val (eN 6), .val (eN 1), .val (eN 4), .no, .no, .no, .no, .no, .no, .no, .no, .no, .no, .no, .no, .no] (fun out => out = .rt (.bool true)) := by
  refine wP_nx (r1 := [.pt g, lst, .val (eN 19), .val (eN 2), .val (eN 6), .val (eN 1), .val (eN 4), .val (.list (ex_0_1_3.map eN)), .no, .no, .no, .no, .no, .no, .no, .no, .no, .no, .no, .no]) (nfit2 4 g lst _ (by decide +kernel)) ?_
  refine wP_nx (r1 := [.pt g, lst, .val (eN 19), .val (eN 2), .val (eN 6), .val (eN 1), .val (eN 4), .val (.list (ex_0_1_3.map eN)), .val (eN 1), .no, .no, .no, .no, .no, .no, .no, .no, .no, .no, .no]) rfl ?_
  refine ⟨1, rfl, rfl, 3, rfl, by decide, by decide, fun i i0 i1 => ⟨i, rfl, ?_⟩⟩
  have hi : i = 0 ∨ i = 1 ∨ i = 2 := by omega
  rcases hi with rfl | rfl | rfl
  · exact tl_n2_4_1 g lst (.val (eN 1))
  · exact tl_n2_4_2 g lst (.val (eN 1))
  · exact tl_n2_4_3 g lst (.val (eN 1))
theorem tl_n2_5_1 (g : Addr) (lst least : Sl) : nt7 g [.pt g, lst, .val (eN 19), .val (eN 2), .val (eN 6), .val (eN 1), .val (eN 5), .val (.list (ex_0_1_3_4.map eN)), least, .val (eN 1), .no, .no, .no, .no, .no, .no, .no, .no, .no, .no] (fun out => out = .rt (.bool true)) :=
  nested_tail (p := 19) (few := 2) (wide := 6) (many := 1) (inner := 5) (told := 1) (nums := nu_19_6_1) (used := ex_0_1_3_4) (small := sm2) nc2 ok7 i1_n2_5 i2_n2_5 tw_n2_5_1 (by decide) lf_n2_5_1 (far_ok (p := 19) (n := nu_19_6_1.length) (exps := ex_0) (S := bkS 19 nu_19_6_1 ex_0) (a := 0) (as := []) (d := 6) rfl (by decide +kernel) (ap_facts ok7 lots6 wb7 ap7).1 (ap_facts ok7 lots6 wb7 ap7).2 (by decide +kernel))
theorem tl_n2_5_2 (g : Addr) (lst least : Sl) : nt7 g [.pt g, lst, .val (eN 19), .val (eN 2), .val (eN 6), .val (eN 1), .val (eN 5), .val (.list (ex_0_1_3_4.map eN)), least, .val (eN 2), .no, .no, .no, .no, .no, .no, .no, .no, .no, .no] (fun out => out = .rt (.bool true)) :=
  nested_tail (p := 19) (few := 2) (wide := 6) (many := 1) (inner := 5) (told := 2) (nums := nu_19_6_1) (used := ex_0_1_3_4) (small := sm2) nc2 ok8 i1_n2_5 i2_n2_5 tw_n2_5_2 (by decide) lf_n2_5_2 (far_ok (p := 19) (n := nu_19_6_1.length) (exps := ex_0_1) (S := bkS 19 nu_19_6_1 ex_0_1) (a := 0) (as := [1]) (d := 5) rfl (by decide +kernel) (ap_facts ok8 lots6 wb8 ap8).1 (ap_facts ok8 lots6 wb8 ap8).2 (by decide +kernel))
theorem tl_n2_5_3 (g : Addr) (lst least : Sl) : nt7 g [.pt g, lst, .val (eN 19), .val (eN 2), .val (eN 6), .val (eN 1), .val (eN 5), .val (.list (ex_0_1_3_4.map eN)), least, .val (eN 3), .no, .no, .no, .no, .no, .no, .no, .no, .no, .no] (fun out => out = .rt (.bool true)) :=
  nested_tail (p := 19) (few := 2) (wide := 6) (many := 1) (inner := 5) (told := 3) (nums := nu_19_6_1) (used := ex_0_1_3_4) (small := sm2) nc2 ok9 i1_n2_5 i2_n2_5 tw_n2_5_3 (by decide) lf_n2_5_3 (far_ok (p := 19) (n := nu_19_6_1.length) (exps := ex_0_1_3) (S := bkS 19 nu_19_6_1 ex_0_1_3) (a := 0) (as := [1, 3]) (d := 3) rfl (by decide +kernel) (ap_facts ok9 lots6 wb9 ap9).1 (ap_facts ok9 lots6 wb9 ap9).2 (by decide +kernel))
theorem tl_n2_5_4 (g : Addr) (lst least : Sl) : nt7 g [.pt g, lst, .val (eN 19), .val (eN 2), .val (eN 6), .val (eN 1), .val (eN 5), .val (.list (ex_0_1_3_4.map eN)), least, .val (eN 4), .no, .no, .no, .no, .no, .no, .no, .no, .no, .no] (fun out => out = .rt (.bool true)) :=
  nested_tail (p := 19) (few := 2) (wide := 6) (many := 1) (inner := 5) (told := 4) (nums := nu_19_6_1) (used := ex_0_1_3_4) (small := sm2) nc2 ok10 i1_n2_5 i2_n2_5 tw_n2_5_4 (by decide) lf_n2_5_4 (far_ok (p := 19) (n := nu_19_6_1.length) (exps := ex_0_1_3_4) (S := bkS 19 nu_19_6_1 ex_0_1_3_4) (a := 0) (as := [1, 3, 4]) (d := 2) rfl (by decide +kernel) (ap_facts ok10 lots6 wb10 ap10).1 (ap_facts ok10 lots6 wb10 ap10).2 (by decide +kernel))
theorem in_n2_5 (g : Addr) (lst : Sl) : wSeq (wP v4__law_nested_right) (wSeq (wP v5__law_nested_right) (wSeq v6__law_nested_right nt7)) g [.pt g, lst, .val (eN 19), .val (eN 2), .val (eN 6), .val (eN 1), .val (eN 5), .no, .no, .no, .no, .no, .no, .no, .no, .no, .no, .no, .no, .no] (fun out => out = .rt (.bool true)) := by
  refine wP_nx (r1 := [.pt g, lst, .val (eN 19), .val (eN 2), .val (eN 6), .val (eN 1), .val (eN 5), .val (.list (ex_0_1_3_4.map eN)), .no, .no, .no, .no, .no, .no, .no, .no, .no, .no, .no, .no]) (nfit2 5 g lst _ (by decide +kernel)) ?_
  refine wP_nx (r1 := [.pt g, lst, .val (eN 19), .val (eN 2), .val (eN 6), .val (eN 1), .val (eN 5), .val (.list (ex_0_1_3_4.map eN)), .val (eN 1), .no, .no, .no, .no, .no, .no, .no, .no, .no, .no, .no]) rfl ?_
  refine ⟨1, rfl, rfl, 4, rfl, by decide, by decide, fun i i0 i1 => ⟨i, rfl, ?_⟩⟩
  have hi : i = 0 ∨ i = 1 ∨ i = 2 ∨ i = 3 := by omega
  rcases hi with rfl | rfl | rfl | rfl
  · exact tl_n2_5_1 g lst (.val (eN 1))
  · exact tl_n2_5_2 g lst (.val (eN 1))
  · exact tl_n2_5_3 g lst (.val (eN 1))
  · exact tl_n2_5_4 g lst (.val (eN 1))
theorem tl_n2_6_1 (g : Addr) (lst least : Sl) : nt7 g [.pt g, lst, .val (eN 19), .val (eN 2), .val (eN 6), .val (eN 1), .val (eN 6), .val (.list (ex_0_1_3_4.map eN)), least, .val (eN 1), .no, .no, .no, .no, .no, .no, .no, .no, .no, .no] (fun out => out = .rt (.bool true)) :=
  nested_tail (p := 19) (few := 2) (wide := 6) (many := 1) (inner := 6) (told := 1) (nums := nu_19_6_1) (used := ex_0_1_3_4) (small := sm2) nc2 ok7 i1_n2_6 i2_n2_6 tw_n2_6_1 (by decide) lf_n2_6_1 (far_ok (p := 19) (n := nu_19_6_1.length) (exps := ex_0) (S := bkS 19 nu_19_6_1 ex_0) (a := 0) (as := []) (d := 6) rfl (by decide +kernel) (ap_facts ok7 lots6 wb7 ap7).1 (ap_facts ok7 lots6 wb7 ap7).2 (by decide +kernel))
theorem tl_n2_6_2 (g : Addr) (lst least : Sl) : nt7 g [.pt g, lst, .val (eN 19), .val (eN 2), .val (eN 6), .val (eN 1), .val (eN 6), .val (.list (ex_0_1_3_4.map eN)), least, .val (eN 2), .no, .no, .no, .no, .no, .no, .no, .no, .no, .no] (fun out => out = .rt (.bool true)) :=
  nested_tail (p := 19) (few := 2) (wide := 6) (many := 1) (inner := 6) (told := 2) (nums := nu_19_6_1) (used := ex_0_1_3_4) (small := sm2) nc2 ok8 i1_n2_6 i2_n2_6 tw_n2_6_2 (by decide) lf_n2_6_2 (far_ok (p := 19) (n := nu_19_6_1.length) (exps := ex_0_1) (S := bkS 19 nu_19_6_1 ex_0_1) (a := 0) (as := [1]) (d := 5) rfl (by decide +kernel) (ap_facts ok8 lots6 wb8 ap8).1 (ap_facts ok8 lots6 wb8 ap8).2 (by decide +kernel))
theorem tl_n2_6_3 (g : Addr) (lst least : Sl) : nt7 g [.pt g, lst, .val (eN 19), .val (eN 2), .val (eN 6), .val (eN 1), .val (eN 6), .val (.list (ex_0_1_3_4.map eN)), least, .val (eN 3), .no, .no, .no, .no, .no, .no, .no, .no, .no, .no] (fun out => out = .rt (.bool true)) :=
  nested_tail (p := 19) (few := 2) (wide := 6) (many := 1) (inner := 6) (told := 3) (nums := nu_19_6_1) (used := ex_0_1_3_4) (small := sm2) nc2 ok9 i1_n2_6 i2_n2_6 tw_n2_6_3 (by decide) lf_n2_6_3 (far_ok (p := 19) (n := nu_19_6_1.length) (exps := ex_0_1_3) (S := bkS 19 nu_19_6_1 ex_0_1_3) (a := 0) (as := [1, 3]) (d := 3) rfl (by decide +kernel) (ap_facts ok9 lots6 wb9 ap9).1 (ap_facts ok9 lots6 wb9 ap9).2 (by decide +kernel))
theorem tl_n2_6_4 (g : Addr) (lst least : Sl) : nt7 g [.pt g, lst, .val (eN 19), .val (eN 2), .val (eN 6), .val (eN 1), .val (eN 6), .val (.list (ex_0_1_3_4.map eN)), least, .val (eN 4), .no, .no, .no, .no, .no, .no, .no, .no, .no, .no] (fun out => out = .rt (.bool true)) :=
  nested_tail (p := 19) (few := 2) (wide := 6) (many := 1) (inner := 6) (told := 4) (nums := nu_19_6_1) (used := ex_0_1_3_4) (small := sm2) nc2 ok10 i1_n2_6 i2_n2_6 tw_n2_6_4 (by decide) lf_n2_6_4 (far_ok (p := 19) (n := nu_19_6_1.length) (exps := ex_0_1_3_4) (S := bkS 19 nu_19_6_1 ex_0_1_3_4) (a := 0) (as := [1, 3, 4]) (d := 2) rfl (by decide +kernel) (ap_facts ok10 lots6 wb10 ap10).1 (ap_facts ok10 lots6 wb10 ap10).2 (by decide +kernel))
theorem in_n2_6 (g : Addr) (lst : Sl) : wSeq (wP v4__law_nested_right) (wSeq (wP v5__law_nested_right) (wSeq v6__law_nested_right nt7)) g [.pt g, lst, .val (eN 19), .val (eN 2), .val (eN 6), .val (eN 1), .val (eN 6), .no, .no, .no, .no, .no, .no, .no, .no, .no, .no, .no, .no, .no] (fun out => out = .rt (.bool true)) := by
  refine wP_nx (r1 := [.pt g, lst, .val (eN 19), .val (eN 2), .val (eN 6), .val (eN 1), .val (eN 6), .val (.list (ex_0_1_3_4.map eN)), .no, .no, .no, .no, .no, .no, .no, .no, .no, .no, .no, .no]) (nfit2 6 g lst _ (by decide +kernel)) ?_
  refine wP_nx (r1 := [.pt g, lst, .val (eN 19), .val (eN 2), .val (eN 6), .val (eN 1), .val (eN 6), .val (.list (ex_0_1_3_4.map eN)), .val (eN 1), .no, .no, .no, .no, .no, .no, .no, .no, .no, .no, .no]) rfl ?_
  refine ⟨1, rfl, rfl, 4, rfl, by decide, by decide, fun i i0 i1 => ⟨i, rfl, ?_⟩⟩
  have hi : i = 0 ∨ i = 1 ∨ i = 2 ∨ i = 3 := by omega
  rcases hi with rfl | rfl | rfl | rfl
  · exact tl_n2_6_1 g lst (.val (eN 1))
  · exact tl_n2_6_2 g lst (.val (eN 1))
  · exact tl_n2_6_3 g lst (.val (eN 1))
  · exact tl_n2_6_4 g lst (.val (eN 1))
theorem ch_n2 (g : Addr) (lst : Sl) : wSeq v3__law_nested_right (wSeq (wP v4__law_nested_right) (wSeq (wP v5__law_nested_right) (wSeq v6__law_nested_right nt7))) g [.pt g, lst, .val (eN 19), .val (eN 2), .val (eN 6), .val (eN 1), .val (eN 0), .no, .no, .no, .no, .no, .no, .no, .no, .no, .no, .no, .no, .no] (fun out => out = .rt (.bool true)) := by
  refine ⟨false, rfl, 1, rfl, rfl, 6, rfl, by decide, by decide, fun i i0 i1 => ⟨i, rfl, ?_⟩⟩
  have hi : i = 0 ∨ i = 1 ∨ i = 2 ∨ i = 3 ∨ i = 4 ∨ i = 5 := by omega
  rcases hi with rfl | rfl | rfl | rfl | rfl | rfl
  · exact in_n2_1 g lst
  · exact in_n2_2 g lst
  · exact in_n2_3 g lst
  · exact in_n2_4 g lst
  · exact in_n2_5 g lst
  · exact in_n2_6 g lst
theorem tl_n3_1_1 (g : Addr) (lst least : Sl) : nt7 g [.pt g, lst, .val (eN 5), .val (eN 1), .val (eN 4), .val (eN 1), .val (eN 1), .val (.list (ex_0.map eN)), least, .val (eN 1), .no, .no, .no, .no, .no, .no, .no, .no, .no, .no] (fun out => out = .rt (.bool true)) :=
  nested_tail (p := 5) (few := 1) (wide := 4) (many := 1) (inner := 1) (told := 1) (nums := nu_5_4_1) (used := ex_0) (small := sm3) nc3 ok11 i1_n3_1 i2_n3_1 tw_n3_1_1 (by decide) lf_n3_1_1 (far_ok (p := 5) (n := nu_5_4_1.length) (exps := ex_0) (S := bkS 5 nu_5_4_1 ex_0) (a := 0) (as := []) (d := 4) rfl (by decide +kernel) (ap_facts ok11 lots4 wb11 ap11).1 (ap_facts ok11 lots4 wb11 ap11).2 (by decide +kernel))
theorem in_n3_1 (g : Addr) (lst : Sl) : wSeq (wP v4__law_nested_right) (wSeq (wP v5__law_nested_right) (wSeq v6__law_nested_right nt7)) g [.pt g, lst, .val (eN 5), .val (eN 1), .val (eN 4), .val (eN 1), .val (eN 1), .no, .no, .no, .no, .no, .no, .no, .no, .no, .no, .no, .no, .no] (fun out => out = .rt (.bool true)) := by
  refine wP_nx (r1 := [.pt g, lst, .val (eN 5), .val (eN 1), .val (eN 4), .val (eN 1), .val (eN 1), .val (.list (ex_0.map eN)), .no, .no, .no, .no, .no, .no, .no, .no, .no, .no, .no, .no]) (nfit3 1 g lst _ (by decide +kernel)) ?_
  refine wP_nx (r1 := [.pt g, lst, .val (eN 5), .val (eN 1), .val (eN 4), .val (eN 1), .val (eN 1), .val (.list (ex_0.map eN)), .val (eN 1), .no, .no, .no, .no, .no, .no, .no, .no, .no, .no, .no]) rfl ?_
  refine ⟨1, rfl, rfl, 1, rfl, by decide, by decide, fun i i0 i1 => ⟨i, rfl, ?_⟩⟩
  have hi : i = 0 := by omega
  rcases hi with rfl
  · exact tl_n3_1_1 g lst (.val (eN 1))
theorem tl_n3_2_1 (g : Addr) (lst least : Sl) : nt7 g [.pt g, lst, .val (eN 5), .val (eN 1), .val (eN 4), .val (eN 1), .val (eN 2), .val (.list (ex_0.map eN)), least, .val (eN 1), .no, .no, .no, .no, .no, .no, .no, .no, .no, .no] (fun out => out = .rt (.bool true)) :=
  nested_tail (p := 5) (few := 1) (wide := 4) (many := 1) (inner := 2) (told := 1) (nums := nu_5_4_1) (used := ex_0) (small := sm3) nc3 ok11 i1_n3_2 i2_n3_2 tw_n3_2_1 (by decide) lf_n3_2_1 (far_ok (p := 5) (n := nu_5_4_1.length) (exps := ex_0) (S := bkS 5 nu_5_4_1 ex_0) (a := 0) (as := []) (d := 4) rfl (by decide +kernel) (ap_facts ok11 lots4 wb11 ap11).1 (ap_facts ok11 lots4 wb11 ap11).2 (by decide +kernel))
theorem in_n3_2 (g : Addr) (lst : Sl) : wSeq (wP v4__law_nested_right) (wSeq (wP v5__law_nested_right) (wSeq v6__law_nested_right nt7)) g [.pt g, lst, .val (eN 5), .val (eN 1), .val (eN 4), .val (eN 1), .val (eN 2), .no, .no, .no, .no, .no, .no, .no, .no, .no, .no, .no, .no, .no] (fun out => out = .rt (.bool true)) := by
  refine wP_nx (r1 := [.pt g, lst, .val (eN 5), .val (eN 1), .val (eN 4), .val (eN 1), .val (eN 2), .val (.list (ex_0.map eN)), .no, .no, .no, .no, .no, .no, .no, .no, .no, .no, .no, .no]) (nfit3 2 g lst _ (by decide +kernel)) ?_
  refine wP_nx (r1 := [.pt g, lst, .val (eN 5), .val (eN 1), .val (eN 4), .val (eN 1), .val (eN 2), .val (.list (ex_0.map eN)), .val (eN 1), .no, .no, .no, .no, .no, .no, .no, .no, .no, .no, .no]) rfl ?_
  refine ⟨1, rfl, rfl, 1, rfl, by decide, by decide, fun i i0 i1 => ⟨i, rfl, ?_⟩⟩
  have hi : i = 0 := by omega
  rcases hi with rfl
  · exact tl_n3_2_1 g lst (.val (eN 1))
theorem tl_n3_3_1 (g : Addr) (lst least : Sl) : nt7 g [.pt g, lst, .val (eN 5), .val (eN 1), .val (eN 4), .val (eN 1), .val (eN 3), .val (.list (ex_0_2.map eN)), least, .val (eN 1), .no, .no, .no, .no, .no, .no, .no, .no, .no, .no] (fun out => out = .rt (.bool true)) :=
  nested_tail (p := 5) (few := 1) (wide := 4) (many := 1) (inner := 3) (told := 1) (nums := nu_5_4_1) (used := ex_0_2) (small := sm3) nc3 ok11 i1_n3_3 i2_n3_3 tw_n3_3_1 (by decide) lf_n3_3_1 (far_ok (p := 5) (n := nu_5_4_1.length) (exps := ex_0) (S := bkS 5 nu_5_4_1 ex_0) (a := 0) (as := []) (d := 4) rfl (by decide +kernel) (ap_facts ok11 lots4 wb11 ap11).1 (ap_facts ok11 lots4 wb11 ap11).2 (by decide +kernel))
theorem tl_n3_3_2 (g : Addr) (lst least : Sl) : nt7 g [.pt g, lst, .val (eN 5), .val (eN 1), .val (eN 4), .val (eN 1), .val (eN 3), .val (.list (ex_0_2.map eN)), least, .val (eN 2), .no, .no, .no, .no, .no, .no, .no, .no, .no, .no] (fun out => out = .rt (.bool true)) :=
  nested_tail (p := 5) (few := 1) (wide := 4) (many := 1) (inner := 3) (told := 2) (nums := nu_5_4_1) (used := ex_0_2) (small := sm3) nc3 ok12 i1_n3_3 i2_n3_3 tw_n3_3_2 (by decide) lf_n3_3_2 (far_ok (p := 5) (n := nu_5_4_1.length) (exps := ex_0_2) (S := bkS 5 nu_5_4_1 ex_0_2) (a := 0) (as := [2]) (d := 2) rfl (by decide +kernel) (ap_facts ok12 lots4 wb12 ap12).1 (ap_facts ok12 lots4 wb12 ap12).2 (by decide +kernel))
theorem in_n3_3 (g : Addr) (lst : Sl) : wSeq (wP v4__law_nested_right) (wSeq (wP v5__law_nested_right) (wSeq v6__law_nested_right nt7)) g [.pt g, lst, .val (eN 5), .val (eN 1), .val (eN 4), .val (eN 1), .val (eN 3), .no, .no, .no, .no, .no, .no, .no, .no, .no, .no, .no, .no, .no] (fun out => out = .rt (.bool true)) := by
  refine wP_nx (r1 := [.pt g, lst, .val (eN 5), .val (eN 1), .val (eN 4), .val (eN 1), .val (eN 3), .val (.list (ex_0_2.map eN)), .no, .no, .no, .no, .no, .no, .no, .no, .no, .no, .no, .no]) (nfit3 3 g lst _ (by decide +kernel)) ?_
  refine wP_nx (r1 := [.pt g, lst, .val (eN 5), .val (eN 1), .val (eN 4), .val (eN 1), .val (eN 3), .val (.list (ex_0_2.map eN)), .val (eN 1), .no, .no, .no, .no, .no, .no, .no, .no, .no, .no, .no]) rfl ?_
  refine ⟨1, rfl, rfl, 2, rfl, by decide, by decide, fun i i0 i1 => ⟨i, rfl, ?_⟩⟩
  have hi : i = 0 ∨ i = 1 := by omega
  rcases hi with rfl | rfl
  · exact tl_n3_3_1 g lst (.val (eN 1))
  · exact tl_n3_3_2 g lst (.val (eN 1))
theorem tl_n3_4_1 (g : Addr) (lst least : Sl) : nt7 g [.pt g, lst, .val (eN 5), .val (eN 1), .val (eN 4), .val (eN 1), .val (eN 4), .val (.list (ex_0_2.map eN)), least, .val (eN 1), .no, .no, .no, .no, .no, .no, .no, .no, .no, .no] (fun out => out = .rt (.bool true)) :=
  nested_tail (p := 5) (few := 1) (wide := 4) (many := 1) (inner := 4) (told := 1) (nums := nu_5_4_1) (used := ex_0_2) (small := sm3) nc3 ok11 i1_n3_4 i2_n3_4 tw_n3_4_1 (by decide) lf_n3_4_1 (far_ok (p := 5) (n := nu_5_4_1.length) (exps := ex_0) (S := bkS 5 nu_5_4_1 ex_0) (a := 0) (as := []) (d := 4) rfl (by decide +kernel) (ap_facts ok11 lots4 wb11 ap11).1 (ap_facts ok11 lots4 wb11 ap11).2 (by decide +kernel))
theorem tl_n3_4_2 (g : Addr) (lst least : Sl) : nt7 g [.pt g, lst, .val (eN 5), .val (eN 1), .val (eN 4), .val (eN 1), .val (eN 4), .val (.list (ex_0_2.map eN)), least, .val (eN 2), .no, .no, .no, .no, .no, .no, .no, .no, .no, .no] (fun out => out = .rt (.bool true)) :=
  nested_tail (p := 5) (few := 1) (wide := 4) (many := 1) (inner := 4) (told := 2) (nums := nu_5_4_1) (used := ex_0_2) (small := sm3) nc3 ok12 i1_n3_4 i2_n3_4 tw_n3_4_2 (by decide) lf_n3_4_2 (far_ok (p := 5) (n := nu_5_4_1.length) (exps := ex_0_2) (S := bkS 5 nu_5_4_1 ex_0_2) (a := 0) (as := [2]) (d := 2) rfl (by decide +kernel) (ap_facts ok12 lots4 wb12 ap12).1 (ap_facts ok12 lots4 wb12 ap12).2 (by decide +kernel))
theorem in_n3_4 (g : Addr) (lst : Sl) : wSeq (wP v4__law_nested_right) (wSeq (wP v5__law_nested_right) (wSeq v6__law_nested_right nt7)) g [.pt g, lst, .val (eN 5), .val (eN 1), .val (eN 4), .val (eN 1), .val (eN 4), .no, .no, .no, .no, .no, .no, .no, .no, .no, .no, .no, .no, .no] (fun out => out = .rt (.bool true)) := by
  refine wP_nx (r1 := [.pt g, lst, .val (eN 5), .val (eN 1), .val (eN 4), .val (eN 1), .val (eN 4), .val (.list (ex_0_2.map eN)), .no, .no, .no, .no, .no, .no, .no, .no, .no, .no, .no, .no]) (nfit3 4 g lst _ (by decide +kernel)) ?_
  refine wP_nx (r1 := [.pt g, lst, .val (eN 5), .val (eN 1), .val (eN 4), .val (eN 1), .val (eN 4), .val (.list (ex_0_2.map eN)), .val (eN 1), .no, .no, .no, .no, .no, .no, .no, .no, .no, .no, .no]) rfl ?_
  refine ⟨1, rfl, rfl, 2, rfl, by decide, by decide, fun i i0 i1 => ⟨i, rfl, ?_⟩⟩
  have hi : i = 0 ∨ i = 1 := by omega
  rcases hi with rfl | rfl
  · exact tl_n3_4_1 g lst (.val (eN 1))
  · exact tl_n3_4_2 g lst (.val (eN 1))
theorem ch_n3 (g : Addr) (lst : Sl) : wSeq v3__law_nested_right (wSeq (wP v4__law_nested_right) (wSeq (wP v5__law_nested_right) (wSeq v6__law_nested_right nt7))) g [.pt g, lst, .val (eN 5), .val (eN 1), .val (eN 4), .val (eN 1), .val (eN 0), .no, .no, .no, .no, .no, .no, .no, .no, .no, .no, .no, .no, .no] (fun out => out = .rt (.bool true)) := by
  refine ⟨false, rfl, 1, rfl, rfl, 4, rfl, by decide, by decide, fun i i0 i1 => ⟨i, rfl, ?_⟩⟩
  have hi : i = 0 ∨ i = 1 ∨ i = 2 ∨ i = 3 := by omega
  rcases hi with rfl | rfl | rfl | rfl
  · exact in_n3_1 g lst
  · exact in_n3_2 g lst
  · exact in_n3_3 g lst
  · exact in_n3_4 g lst
theorem tl_n4_1_1 (g : Addr) (lst least : Sl) : nt7 g [.pt g, lst, .val (eN 17), .val (eN 1), .val (eN 4), .val (eN 2), .val (eN 1), .val (.list (ex_0_4.map eN)), least, .val (eN 1), .no, .no, .no, .no, .no, .no, .no, .no, .no, .no] (fun out => out = .rt (.bool true)) :=
  nested_tail (p := 17) (few := 1) (wide := 4) (many := 2) (inner := 1) (told := 1) (nums := nu_17_4_2) (used := ex_0_4) (small := sm4) nc4 ok13 i1_n4_1 i2_n4_1 tw_n4_1_1 (by decide) lf_n4_1_1 (far_ok (p := 17) (n := nu_17_4_2.length) (exps := ex_0) (S := bkS 17 nu_17_4_2 ex_0) (a := 0) (as := []) (d := 8) rfl (by decide +kernel) (ap_facts ok13 lots8 wb13 ap13).1 (ap_facts ok13 lots8 wb13 ap13).2 (by decide +kernel))
theorem tl_n4_1_2 (g : Addr) (lst least : Sl) : nt7 g [.pt g, lst, .val (eN 17), .val (eN 1), .val (eN 4), .val (eN 2), .val (eN 1), .val (.list (ex_0_4.map eN)), least, .val (eN 2), .no, .no, .no, .no, .no, .no, .no, .no, .no, .no] (fun out => out = .rt (.bool true)) :=
  nested_tail (p := 17) (few := 1) (wide := 4) (many := 2) (inner := 1) (told := 2) (nums := nu_17_4_2) (used := ex_0_4) (small := sm4) nc4 ok14 i1_n4_1 i2_n4_1 tw_n4_1_2 (by decide) lf_n4_1_2 (far_ok (p := 17) (n := nu_17_4_2.length) (exps := ex_0_4) (S := bkS 17 nu_17_4_2 ex_0_4) (a := 0) (as := [4]) (d := 4) rfl (by decide +kernel) (ap_facts ok14 lots8 wb14 ap14).1 (ap_facts ok14 lots8 wb14 ap14).2 (by decide +kernel))
theorem in_n4_1 (g : Addr) (lst : Sl) : wSeq (wP v4__law_nested_right) (wSeq (wP v5__law_nested_right) (wSeq v6__law_nested_right nt7)) g [.pt g, lst, .val (eN 17), .val (eN 1), .val (eN 4), .val (eN 2), .val (eN 1), .no, .no, .no, .no, .no, .no, .no, .no, .no, .no, .no, .no, .no] (fun out => out = .rt (.bool true)) := by
  refine wP_nx (r1 := [.pt g, lst, .val (eN 17), .val (eN 1), .val (eN 4), .val (eN 2), .val (eN 1), .val (.list (ex_0_4.map eN)), .no, .no, .no, .no, .no, .no, .no, .no, .no, .no, .no, .no]) (nfit4 1 g lst _ (by decide +kernel)) ?_
  refine wP_nx (r1 := [.pt g, lst, .val (eN 17), .val (eN 1), .val (eN 4), .val (eN 2), .val (eN 1), .val (.list (ex_0_4.map eN)), .val (eN 1), .no, .no, .no, .no, .no, .no, .no, .no, .no, .no, .no]) rfl ?_
  refine ⟨1, rfl, rfl, 2, rfl, by decide, by decide, fun i i0 i1 => ⟨i, rfl, ?_⟩⟩
  have hi : i = 0 ∨ i = 1 := by omega
  rcases hi with rfl | rfl
  · exact tl_n4_1_1 g lst (.val (eN 1))
  · exact tl_n4_1_2 g lst (.val (eN 1))
theorem tl_n4_2_1 (g : Addr) (lst least : Sl) : nt7 g [.pt g, lst, .val (eN 17), .val (eN 1), .val (eN 4), .val (eN 2), .val (eN 2), .val (.list (ex_0_4.map eN)), least, .val (eN 1), .no, .no, .no, .no, .no, .no, .no, .no, .no, .no] (fun out => out = .rt (.bool true)) :=
  nested_tail (p := 17) (few := 1) (wide := 4) (many := 2) (inner := 2) (told := 1) (nums := nu_17_4_2) (used := ex_0_4) (small := sm4) nc4 ok13 i1_n4_2 i2_n4_2 tw_n4_2_1 (by decide) lf_n4_2_1 (far_ok (p := 17) (n := nu_17_4_2.length) (exps := ex_0) (S := bkS 17 nu_17_4_2 ex_0) (a := 0) (as := []) (d := 8) rfl (by decide +kernel) (ap_facts ok13 lots8 wb13 ap13).1 (ap_facts ok13 lots8 wb13 ap13).2 (by decide +kernel))
theorem tl_n4_2_2 (g : Addr) (lst least : Sl) : nt7 g [.pt g, lst, .val (eN 17), .val (eN 1), .val (eN 4), .val (eN 2), .val (eN 2), .val (.list (ex_0_4.map eN)), least, .val (eN 2), .no, .no, .no, .no, .no, .no, .no, .no, .no, .no] (fun out => out = .rt (.bool true)) :=
  nested_tail (p := 17) (few := 1) (wide := 4) (many := 2) (inner := 2) (told := 2) (nums := nu_17_4_2) (used := ex_0_4) (small := sm4) nc4 ok14 i1_n4_2 i2_n4_2 tw_n4_2_2 (by decide) lf_n4_2_2 (far_ok (p := 17) (n := nu_17_4_2.length) (exps := ex_0_4) (S := bkS 17 nu_17_4_2 ex_0_4) (a := 0) (as := [4]) (d := 4) rfl (by decide +kernel) (ap_facts ok14 lots8 wb14 ap14).1 (ap_facts ok14 lots8 wb14 ap14).2 (by decide +kernel))
theorem in_n4_2 (g : Addr) (lst : Sl) : wSeq (wP v4__law_nested_right) (wSeq (wP v5__law_nested_right) (wSeq v6__law_nested_right nt7)) g [.pt g, lst, .val (eN 17), .val (eN 1), .val (eN 4), .val (eN 2), .val (eN 2), .no, .no, .no, .no, .no, .no, .no, .no, .no, .no, .no, .no, .no] (fun out => out = .rt (.bool true)) := by
  refine wP_nx (r1 := [.pt g, lst, .val (eN 17), .val (eN 1), .val (eN 4), .val (eN 2), .val (eN 2), .val (.list (ex_0_4.map eN)), .no, .no, .no, .no, .no, .no, .no, .no, .no, .no, .no, .no]) (nfit4 2 g lst _ (by decide +kernel)) ?_
  refine wP_nx (r1 := [.pt g, lst, .val (eN 17), .val (eN 1), .val (eN 4), .val (eN 2), .val (eN 2), .val (.list (ex_0_4.map eN)), .val (eN 1), .no, .no, .no, .no, .no, .no, .no, .no, .no, .no, .no]) rfl ?_
  refine ⟨1, rfl, rfl, 2, rfl, by decide, by decide, fun i i0 i1 => ⟨i, rfl, ?_⟩⟩
  have hi : i = 0 ∨ i = 1 := by omega
  rcases hi with rfl | rfl
  · exact tl_n4_2_1 g lst (.val (eN 1))
  · exact tl_n4_2_2 g lst (.val (eN 1))
theorem tl_n4_3_1 (g : Addr) (lst least : Sl) : nt7 g [.pt g, lst, .val (eN 17), .val (eN 1), .val (eN 4), .val (eN 2), .val (eN 3), .val (.list (ex_0_2_4_6.map eN)), least, .val (eN 1), .no, .no, .no, .no, .no, .no, .no, .no, .no, .no] (fun out => out = .rt (.bool true)) :=
  nested_tail (p := 17) (few := 1) (wide := 4) (many := 2) (inner := 3) (told := 1) (nums := nu_17_4_2) (used := ex_0_2_4_6) (small := sm4) nc4 ok13 i1_n4_3 i2_n4_3 tw_n4_3_1 (by decide) lf_n4_3_1 (far_ok (p := 17) (n := nu_17_4_2.length) (exps := ex_0) (S := bkS 17 nu_17_4_2 ex_0) (a := 0) (as := []) (d := 8) rfl (by decide +kernel) (ap_facts ok13 lots8 wb13 ap13).1 (ap_facts ok13 lots8 wb13 ap13).2 (by decide +kernel))
theorem tl_n4_3_2 (g : Addr) (lst least : Sl) : nt7 g [.pt g, lst, .val (eN 17), .val (eN 1), .val (eN 4), .val (eN 2), .val (eN 3), .val (.list (ex_0_2_4_6.map eN)), least, .val (eN 2), .no, .no, .no, .no, .no, .no, .no, .no, .no, .no] (fun out => out = .rt (.bool true)) :=
  nested_tail (p := 17) (few := 1) (wide := 4) (many := 2) (inner := 3) (told := 2) (nums := nu_17_4_2) (used := ex_0_2_4_6) (small := sm4) nc4 ok15 i1_n4_3 i2_n4_3 tw_n4_3_2 (by decide) lf_n4_3_2 (far_ok (p := 17) (n := nu_17_4_2.length) (exps := ex_0_2) (S := bkS 17 nu_17_4_2 ex_0_2) (a := 0) (as := [2]) (d := 6) rfl (by decide +kernel) (ap_facts ok15 lots8 wb15 ap15).1 (ap_facts ok15 lots8 wb15 ap15).2 (by decide +kernel))
theorem tl_n4_3_3 (g : Addr) (lst least : Sl) : nt7 g [.pt g, lst, .val (eN 17), .val (eN 1), .val (eN 4), .val (eN 2), .val (eN 3), .val (.list (ex_0_2_4_6.map eN)), least, .val (eN 3), .no, .no, .no, .no, .no, .no, .no, .no, .no, .no] (fun out => out = .rt (.bool true)) :=
  nested_tail (p := 17) (few := 1) (wide := 4) (many := 2) (inner := 3) (told := 3) (nums := nu_17_4_2) (used := ex_0_2_4_6) (small := sm4) nc4 ok16 i1_n4_3 i2_n4_3 tw_n4_3_3 (by decide) lf_n4_3_3 (far_ok (p := 17) (n := nu_17_4_2.length) (exps := ex_0_2_4) (S := bkS 17 nu_17_4_2 ex_0_2_4) (a := 0) (as := [2, 4]) (d := 4) rfl (by decide +kernel) (ap_facts ok16 lots8 wb16 ap16).1 (ap_facts ok16 lots8 wb16 ap16).2 (by decide +kernel))
theorem tl_n4_3_4 (g : Addr) (lst least : Sl) : nt7 g [.pt g, lst, .val (eN 17), .val (eN 1), .val (eN 4), .val (eN 2), .val (eN 3), .val (.list (ex_0_2_4_6.map eN)), least, .val (eN 4), .no, .no, .no, .no, .no, .no, .no, .no, .no, .no] (fun out => out = .rt (.bool true)) :=
  nested_tail (p := 17) (few := 1) (wide := 4) (many := 2) (inner := 3) (told := 4) (nums := nu_17_4_2) (used := ex_0_2_4_6) (small := sm4) nc4 ok17 i1_n4_3 i2_n4_3 tw_n4_3_4 (by decide) lf_n4_3_4 (far_ok (p := 17) (n := nu_17_4_2.length) (exps := ex_0_2_4_6) (S := bkS 17 nu_17_4_2 ex_0_2_4_6) (a := 0) (as := [2, 4, 6]) (d := 2) rfl (by decide +kernel) (ap_facts ok17 lots8 wb17 ap17).1 (ap_facts ok17 lots8 wb17 ap17).2 (by decide +kernel))
theorem in_n4_3 (g : Addr) (lst : Sl) : wSeq (wP v4__law_nested_right) (wSeq (wP v5__law_nested_right) (wSeq v6__law_nested_right nt7)) g [.pt g, lst, .val (eN 17), .val (eN 1), .val (eN 4), .val (eN 2), .val (eN 3), .no, .no, .no, .no, .no, .no, .no, .no, .no, .no, .no, .no, .no] (fun out => out = .rt (.bool true)) := by
  refine wP_nx (r1 := [.pt g, lst, .val (eN 17), .val (eN 1), .val (eN 4), .val (eN 2), .val (eN 3), .val (.list (ex_0_2_4_6.map eN)), .no, .no, .no, .no, .no, .no, .no, .no, .no, .no, .no, .no]) (nfit4 3 g lst _ (by decide +kernel)) ?_
  refine wP_nx (r1 := [.pt g, lst, .val (eN 17), .val (eN 1), .val (eN 4), .val (eN 2), .val (eN 3), .val (.list (ex_0_2_4_6.map eN)), .val (eN 1), .no, .no, .no, .no, .no, .no, .no, .no, .no, .no, .no]) rfl ?_
  refine ⟨1, rfl, rfl, 4, rfl, by decide, by decide, fun i i0 i1 => ⟨i, rfl, ?_⟩⟩
  have hi : i = 0 ∨ i = 1 ∨ i = 2 ∨ i = 3 := by omega
  rcases hi with rfl | rfl | rfl | rfl
  · exact tl_n4_3_1 g lst (.val (eN 1))
  · exact tl_n4_3_2 g lst (.val (eN 1))
  · exact tl_n4_3_3 g lst (.val (eN 1))
  · exact tl_n4_3_4 g lst (.val (eN 1))
theorem tl_n4_4_1 (g : Addr) (lst least : Sl) : nt7 g [.pt g, lst, .val (eN 17), .val (eN 1), .val (eN 4), .val (eN 2), .val (eN 4), .val (.list (ex_0_2_4_6.map eN)), least, .val (eN 1), .no, .no, .no, .no, .no, .no, .no, .no, .no, .no] (fun out => out = .rt (.bool true)) :=
  nested_tail (p := 17) (few := 1) (wide := 4) (many := 2) (inner := 4) (told := 1) (nums := nu_17_4_2) (used := ex_0_2_4_6) (small := sm4) nc4 ok13 i1_n4_4 i2_n4_4 tw_n4_4_1 (by decide) lf_n4_4_1 (far_ok (p := 17) (n := nu_17_4_2.length) (exps := ex_0) (S := bkS 17 nu_17_4_2 ex_0) (a := 0) (as := []) (d := 8) rfl (by decide +kernel) (ap_facts ok13 lots8 wb13 ap13).1 (ap_facts ok13 lots8 wb13 ap13).2 (by decide +kernel))
theorem tl_n4_4_2 (g : Addr) (lst least : Sl) : nt7 g [.pt g, lst, .val (eN 17), .val (eN 1), .val (eN 4), .val (eN 2), .val (eN 4), .val (.list (ex_0_2_4_6.map eN)), least, .val (eN 2), .no, .no, .no, .no, .no, .no, .no, .no, .no, .no] (fun out => out = .rt (.bool true)) :=
  nested_tail (p := 17) (few := 1) (wide := 4) (many := 2) (inner := 4) (told := 2) (nums := nu_17_4_2) (used := ex_0_2_4_6) (small := sm4) nc4 ok15 i1_n4_4 i2_n4_4 tw_n4_4_2 (by decide) lf_n4_4_2 (far_ok (p := 17) (n := nu_17_4_2.length) (exps := ex_0_2) (S := bkS 17 nu_17_4_2 ex_0_2) (a := 0) (as := [2]) (d := 6) rfl (by decide +kernel) (ap_facts ok15 lots8 wb15 ap15).1 (ap_facts ok15 lots8 wb15 ap15).2 (by decide +kernel))
theorem tl_n4_4_3 (g : Addr) (lst least : Sl) : nt7 g [.pt g, lst, .val (eN 17), .val (eN 1), .val (eN 4), .val (eN 2), .val (eN 4), .val (.list (ex_0_2_4_6.map eN)), least, .val (eN 3), .no, .no, .no, .no, .no, .no, .no, .no, .no, .no] (fun out => out = .rt (.bool true)) :=
  nested_tail (p := 17) (few := 1) (wide := 4) (many := 2) (inner := 4) (told := 3) (nums := nu_17_4_2) (used := ex_0_2_4_6) (small := sm4) nc4 ok16 i1_n4_4 i2_n4_4 tw_n4_4_3 (by decide) lf_n4_4_3 (far_ok (p := 17) (n := nu_17_4_2.length) (exps := ex_0_2_4) (S := bkS 17 nu_17_4_2 ex_0_2_4) (a := 0) (as := [2, 4]) (d := 4) rfl (by decide +kernel) (ap_facts ok16 lots8 wb16 ap16).1 (ap_facts ok16 lots8 wb16 ap16).2 (by decide +kernel))
theorem tl_n4_4_4 (g : Addr) (lst least : Sl) : nt7 g [.pt g, lst, .val (eN 17), .val (eN 1), .val (eN 4), .val (eN 2), .val (eN 4), .val (.list (ex_0_2_4_6.map eN)), least, .val (eN 4), .no, .no, .no, .no, .no, .no, .no, .no, .no, .no] (fun out => out = .rt (.bool true)) :=
  nested_tail (p := 17) (few := 1) (wide := 4) (many := 2) (inner := 4) (told := 4) (nums := nu_17_4_2) (used := ex_0_2_4_6) (small := sm4) nc4 ok17 i1_n4_4 i2_n4_4 tw_n4_4_4 (by decide) lf_n4_4_4 (far_ok (p := 17) (n := nu_17_4_2.length) (exps := ex_0_2_4_6) (S := bkS 17 nu_17_4_2 ex_0_2_4_6) (a := 0) (as := [2, 4, 6]) (d := 2) rfl (by decide +kernel) (ap_facts ok17 lots8 wb17 ap17).1 (ap_facts ok17 lots8 wb17 ap17).2 (by decide +kernel))
theorem in_n4_4 (g : Addr) (lst : Sl) : wSeq (wP v4__law_nested_right) (wSeq (wP v5__law_nested_right) (wSeq v6__law_nested_right nt7)) g [.pt g, lst, .val (eN 17), .val (eN 1), .val (eN 4), .val (eN 2), .val (eN 4), .no, .no, .no, .no, .no, .no, .no, .no, .no, .no, .no, .no, .no] (fun out => out = .rt (.bool true)) := by
  refine wP_nx (r1 := [.pt g, lst, .val (eN 17), .val (eN 1), .val (eN 4), .val (eN 2), .val (eN 4), .val (.list (ex_0_2_4_6.map eN)), .no, .no, .no, .no, .no, .no, .no, .no, .no, .no, .no, .no]) (nfit4 4 g lst _ (by decide +kernel)) ?_
  refine wP_nx (r1 := [.pt g, lst, .val (eN 17), .val (eN 1), .val (eN 4), .val (eN 2), .val (eN 4), .val (.list (ex_0_2_4_6.map eN)), .val (eN 1), .no, .no, .no, .no, .no, .no, .no, .no, .no, .no, .no]) rfl ?_
  refine ⟨1, rfl, rfl, 4, rfl, by decide, by decide, fun i i0 i1 => ⟨i, rfl, ?_⟩⟩
  have hi : i = 0 ∨ i = 1 ∨ i = 2 ∨ i = 3 := by omega
  rcases hi with rfl | rfl | rfl | rfl
  · exact tl_n4_4_1 g lst (.val (eN 1))
  · exact tl_n4_4_2 g lst (.val (eN 1))
  · exact tl_n4_4_3 g lst (.val (eN 1))
  · exact tl_n4_4_4 g lst (.val (eN 1))
theorem ch_n4 (g : Addr) (lst : Sl) : wSeq v3__law_nested_right (wSeq (wP v4__law_nested_right) (wSeq (wP v5__law_nested_right) (wSeq v6__law_nested_right nt7))) g [.pt g, lst, .val (eN 17), .val (eN 1), .val (eN 4), .val (eN 2), .val (eN 0), .no, .no, .no, .no, .no, .no, .no, .no, .no, .no, .no, .no, .no] (fun out => out = .rt (.bool true)) := by
  refine ⟨false, rfl, 1, rfl, rfl, 4, rfl, by decide, by decide, fun i i0 i1 => ⟨i, rfl, ?_⟩⟩
  have hi : i = 0 ∨ i = 1 ∨ i = 2 ∨ i = 3 := by omega
  rcases hi with rfl | rfl | rfl | rfl
  · exact in_n4_1 g lst
  · exact in_n4_2 g lst
  · exact in_n4_3 g lst
  · exact in_n4_4 g lst
theorem tl_n5_3_3 (g : Addr) (lst least : Sl) : nt7 g [.pt g, lst, .val (eN 13), .val (eN 1), .val (eN 6), .val (eN 2), .val (eN 3), .val (.list (ex_0_2_6_8.map eN)), least, .val (eN 3), .no, .no, .no, .no, .no, .no, .no, .no, .no, .no] (fun out => out = .rt (.bool true)) :=
  nested_tail (p := 13) (few := 1) (wide := 6) (many := 2) (inner := 3) (told := 3) (nums := nu_13_6_2) (used := ex_0_2_6_8) (small := sm5) nc5 ok18 i1_n5_3 i2_n5_3 tw_n5_3_3 (by decide) lf_n5_3_3 (far_skip (p := 13) (n := nu_13_6_2.length) (exps := ex_0_2_6) (S := bkS 13 nu_13_6_2 ex_0_2_6) (by decide +kernel) (by decide +kernel))
theorem tl_n5_3_4 (g : Addr) (lst least : Sl) : nt7 g [.pt g, lst, .val (eN 13), .val (eN 1), .val (eN 6), .val (eN 2), .val (eN 3), .val (.list (ex_0_2_6_8.map eN)), least, .val (eN 4), .no, .no, .no, .no, .no, .no, .no, .no, .no, .no] (fun out => out = .rt (.bool true)) :=
  nested_tail (p := 13) (few := 1) (wide := 6) (many := 2) (inner := 3) (told := 4) (nums := nu_13_6_2) (used := ex_0_2_6_8) (small := sm5) nc5 ok19 i1_n5_3 i2_n5_3 tw_n5_3_4 (by decide) lf_n5_3_4 (far_skip (p := 13) (n := nu_13_6_2.length) (exps := ex_0_2_6_8) (S := bkS 13 nu_13_6_2 ex_0_2_6_8) (by decide +kernel) (by decide +kernel))
theorem in_n5_3 (g : Addr) (lst : Sl) : wSeq (wP v4__law_nested_right) (wSeq (wP v5__law_nested_right) (wSeq v6__law_nested_right nt7)) g [.pt g, lst, .val (eN 13), .val (eN 1), .val (eN 6), .val (eN 2), .val (eN 3), .no, .no, .no, .no, .no, .no, .no, .no, .no, .no, .no, .no, .no] (fun out => out = .rt (.bool true)) := by
  refine wP_nx (r1 := [.pt g, lst, .val (eN 13), .val (eN 1), .val (eN 6), .val (eN 2), .val (eN 3), .val (.list (ex_0_2_6_8.map eN)), .no, .no, .no, .no, .no, .no, .no, .no, .no, .no, .no, .no]) (nfit5 3 g lst _ (by decide +kernel)) ?_
  refine wP_nx (r1 := [.pt g, lst, .val (eN 13), .val (eN 1), .val (eN 6), .val (eN 2), .val (eN 3), .val (.list (ex_0_2_6_8.map eN)), .val (eN 3), .no, .no, .no, .no, .no, .no, .no, .no, .no, .no, .no]) rfl ?_
  refine ⟨3, rfl, rfl, 2, rfl, by decide, by decide, fun i i0 i1 => ⟨i, rfl, ?_⟩⟩
  have hi : i = 0 ∨ i = 1 := by omega
  rcases hi with rfl | rfl
  · exact tl_n5_3_3 g lst (.val (eN 3))
  · exact tl_n5_3_4 g lst (.val (eN 3))
theorem ch_n5 (g : Addr) (lst : Sl) : wSeq v3__law_nested_right (wSeq (wP v4__law_nested_right) (wSeq (wP v5__law_nested_right) (wSeq v6__law_nested_right nt7))) g [.pt g, lst, .val (eN 13), .val (eN 1), .val (eN 6), .val (eN 2), .val (eN 3), .no, .no, .no, .no, .no, .no, .no, .no, .no, .no, .no, .no, .no] (fun out => out = .rt (.bool true)) := by
  exact ⟨true, rfl, eN 3, rfl, in_n5_3 g lst⟩
theorem tl_n6_4_3 (g : Addr) (lst least : Sl) : nt7 g [.pt g, lst, .val (eN 13), .val (eN 1), .val (eN 6), .val (eN 2), .val (eN 4), .val (.list (ex_0_2_6_8.map eN)), least, .val (eN 3), .no, .no, .no, .no, .no, .no, .no, .no, .no, .no] (fun out => out = .rt (.bool true)) :=
  nested_tail (p := 13) (few := 1) (wide := 6) (many := 2) (inner := 4) (told := 3) (nums := nu_13_6_2) (used := ex_0_2_6_8) (small := sm6) nc6 ok18 i1_n6_4 i2_n6_4 tw_n6_4_3 (by decide) lf_n6_4_3 (far_skip (p := 13) (n := nu_13_6_2.length) (exps := ex_0_2_6) (S := bkS 13 nu_13_6_2 ex_0_2_6) (by decide +kernel) (by decide +kernel))
theorem tl_n6_4_4 (g : Addr) (lst least : Sl) : nt7 g [.pt g, lst, .val (eN 13), .val (eN 1), .val (eN 6), .val (eN 2), .val (eN 4), .val (.list (ex_0_2_6_8.map eN)), least, .val (eN 4), .no, .no, .no, .no, .no, .no, .no, .no, .no, .no] (fun out => out = .rt (.bool true)) :=
  nested_tail (p := 13) (few := 1) (wide := 6) (many := 2) (inner := 4) (told := 4) (nums := nu_13_6_2) (used := ex_0_2_6_8) (small := sm6) nc6 ok19 i1_n6_4 i2_n6_4 tw_n6_4_4 (by decide) lf_n6_4_4 (far_skip (p := 13) (n := nu_13_6_2.length) (exps := ex_0_2_6_8) (S := bkS 13 nu_13_6_2 ex_0_2_6_8) (by decide +kernel) (by decide +kernel))
theorem in_n6_4 (g : Addr) (lst : Sl) : wSeq (wP v4__law_nested_right) (wSeq (wP v5__law_nested_right) (wSeq v6__law_nested_right nt7)) g [.pt g, lst, .val (eN 13), .val (eN 1), .val (eN 6), .val (eN 2), .val (eN 4), .no, .no, .no, .no, .no, .no, .no, .no, .no, .no, .no, .no, .no] (fun out => out = .rt (.bool true)) := by
  refine wP_nx (r1 := [.pt g, lst, .val (eN 13), .val (eN 1), .val (eN 6), .val (eN 2), .val (eN 4), .val (.list (ex_0_2_6_8.map eN)), .no, .no, .no, .no, .no, .no, .no, .no, .no, .no, .no, .no]) (nfit6 4 g lst _ (by decide +kernel)) ?_
  refine wP_nx (r1 := [.pt g, lst, .val (eN 13), .val (eN 1), .val (eN 6), .val (eN 2), .val (eN 4), .val (.list (ex_0_2_6_8.map eN)), .val (eN 3), .no, .no, .no, .no, .no, .no, .no, .no, .no, .no, .no]) rfl ?_
  refine ⟨3, rfl, rfl, 2, rfl, by decide, by decide, fun i i0 i1 => ⟨i, rfl, ?_⟩⟩
  have hi : i = 0 ∨ i = 1 := by omega
  rcases hi with rfl | rfl
  · exact tl_n6_4_3 g lst (.val (eN 3))
  · exact tl_n6_4_4 g lst (.val (eN 3))
theorem ch_n6 (g : Addr) (lst : Sl) : wSeq v3__law_nested_right (wSeq (wP v4__law_nested_right) (wSeq (wP v5__law_nested_right) (wSeq v6__law_nested_right nt7))) g [.pt g, lst, .val (eN 13), .val (eN 1), .val (eN 6), .val (eN 2), .val (eN 4), .no, .no, .no, .no, .no, .no, .no, .no, .no, .no, .no, .no, .no] (fun out => out = .rt (.bool true)) := by
  exact ⟨true, rfl, eN 4, rfl, in_n6_4 g lst⟩
theorem tl_n7_4_3 (g : Addr) (lst least : Sl) : nt7 g [.pt g, lst, .val (eN 31), .val (eN 2), .val (eN 6), .val (eN 2), .val (eN 4), .val (.list (ex_0_1_3_6_7_9.map eN)), least, .val (eN 3), .no, .no, .no, .no, .no, .no, .no, .no, .no, .no] (fun out => out = .rt (.bool true)) :=
  nested_tail (p := 31) (few := 2) (wide := 6) (many := 2) (inner := 4) (told := 3) (nums := nu_31_6_2) (used := ex_0_1_3_6_7_9) (small := sm7) nc7 ok20 i1_n7_4 i2_n7_4 tw_n7_4_3 (by decide) lf_n7_4_3 (far_skip (p := 31) (n := nu_31_6_2.length) (exps := ex_0_1_3) (S := bkS 31 nu_31_6_2 ex_0_1_3) (by decide +kernel) (by decide +kernel))
theorem tl_n7_4_4 (g : Addr) (lst least : Sl) : nt7 g [.pt g, lst, .val (eN 31), .val (eN 2), .val (eN 6), .val (eN 2), .val (eN 4), .val (.list (ex_0_1_3_6_7_9.map eN)), least, .val (eN 4), .no, .no, .no, .no, .no, .no, .no, .no, .no, .no] (fun out => out = .rt (.bool true)) :=
  nested_tail (p := 31) (few := 2) (wide := 6) (many := 2) (inner := 4) (told := 4) (nums := nu_31_6_2) (used := ex_0_1_3_6_7_9) (small := sm7) nc7 ok21 i1_n7_4 i2_n7_4 tw_n7_4_4 (by decide) lf_n7_4_4 (far_skip (p := 31) (n := nu_31_6_2.length) (exps := ex_0_1_3_6) (S := bkS 31 nu_31_6_2 ex_0_1_3_6) (by decide +kernel) (by decide +kernel))
theorem tl_n7_4_5 (g : Addr) (lst least : Sl) : nt7 g [.pt g, lst, .val (eN 31), .val (eN 2), .val (eN 6), .val (eN 2), .val (eN 4), .val (.list (ex_0_1_3_6_7_9.map eN)), least, .val (eN 5), .no, .no, .no, .no, .no, .no, .no, .no, .no, .no] (fun out => out = .rt (.bool true)) :=
  nested_tail (p := 31) (few := 2) (wide := 6) (many := 2) (inner := 4) (told := 5) (nums := nu_31_6_2) (used := ex_0_1_3_6_7_9) (small := sm7) nc7 ok22 i1_n7_4 i2_n7_4 tw_n7_4_5 (by decide) lf_n7_4_5 (far_ok (p := 31) (n := nu_31_6_2.length) (exps := ex_0_1_3_6_7) (S := bkS 31 nu_31_6_2 ex_0_1_3_6_7) (a := 0) (as := [1, 3, 6, 7]) (d := 5) rfl (by decide +kernel) (ap_facts ok22 lots12 wb18 ap18).1 (ap_facts ok22 lots12 wb18 ap18).2 (by decide +kernel))
theorem tl_n7_4_6 (g : Addr) (lst least : Sl) : nt7 g [.pt g, lst, .val (eN 31), .val (eN 2), .val (eN 6), .val (eN 2), .val (eN 4), .val (.list (ex_0_1_3_6_7_9.map eN)), least, .val (eN 6), .no, .no, .no, .no, .no, .no, .no, .no, .no, .no] (fun out => out = .rt (.bool true)) :=
  nested_tail (p := 31) (few := 2) (wide := 6) (many := 2) (inner := 4) (told := 6) (nums := nu_31_6_2) (used := ex_0_1_3_6_7_9) (small := sm7) nc7 ok23 i1_n7_4 i2_n7_4 tw_n7_4_6 (by decide) lf_n7_4_6 (far_ok (p := 31) (n := nu_31_6_2.length) (exps := ex_0_1_3_6_7_9) (S := bkS 31 nu_31_6_2 ex_0_1_3_6_7_9) (a := 0) (as := [1, 3, 6, 7, 9]) (d := 3) rfl (by decide +kernel) (ap_facts ok23 lots12 wb19 ap19).1 (ap_facts ok23 lots12 wb19 ap19).2 (by decide +kernel))
theorem in_n7_4 (g : Addr) (lst : Sl) : wSeq (wP v4__law_nested_right) (wSeq (wP v5__law_nested_right) (wSeq v6__law_nested_right nt7)) g [.pt g, lst, .val (eN 31), .val (eN 2), .val (eN 6), .val (eN 2), .val (eN 4), .no, .no, .no, .no, .no, .no, .no, .no, .no, .no, .no, .no, .no] (fun out => out = .rt (.bool true)) := by
  refine wP_nx (r1 := [.pt g, lst, .val (eN 31), .val (eN 2), .val (eN 6), .val (eN 2), .val (eN 4), .val (.list (ex_0_1_3_6_7_9.map eN)), .no, .no, .no, .no, .no, .no, .no, .no, .no, .no, .no, .no]) (nfit7 4 g lst _ (by decide +kernel)) ?_
  refine wP_nx (r1 := [.pt g, lst, .val (eN 31), .val (eN 2), .val (eN 6), .val (eN 2), .val (eN 4), .val (.list (ex_0_1_3_6_7_9.map eN)), .val (eN 3), .no, .no, .no, .no, .no, .no, .no, .no, .no, .no, .no]) rfl ?_
  refine ⟨3, rfl, rfl, 4, rfl, by decide, by decide, fun i i0 i1 => ⟨i, rfl, ?_⟩⟩
  have hi : i = 0 ∨ i = 1 ∨ i = 2 ∨ i = 3 := by omega
  rcases hi with rfl | rfl | rfl | rfl
  · exact tl_n7_4_3 g lst (.val (eN 3))
  · exact tl_n7_4_4 g lst (.val (eN 3))
  · exact tl_n7_4_5 g lst (.val (eN 3))
  · exact tl_n7_4_6 g lst (.val (eN 3))
theorem ch_n7 (g : Addr) (lst : Sl) : wSeq v3__law_nested_right (wSeq (wP v4__law_nested_right) (wSeq (wP v5__law_nested_right) (wSeq v6__law_nested_right nt7))) g [.pt g, lst, .val (eN 31), .val (eN 2), .val (eN 6), .val (eN 2), .val (eN 4), .no, .no, .no, .no, .no, .no, .no, .no, .no, .no, .no, .no, .no] (fun out => out = .rt (.bool true)) := by
  exact ⟨true, rfl, eN 4, rfl, in_n7_4 g lst⟩
theorem tl_n8_3_3 (g : Addr) (lst least : Sl) : nt7 g [.pt g, lst, .val (eN 37), .val (eN 1), .val (eN 6), .val (eN 2), .val (eN 3), .val (.list (ex_0_2_6_8.map eN)), least, .val (eN 3), .no, .no, .no, .no, .no, .no, .no, .no, .no, .no] (fun out => out = .rt (.bool true)) :=
  nested_tail (p := 37) (few := 1) (wide := 6) (many := 2) (inner := 3) (told := 3) (nums := nu_37_6_2) (used := ex_0_2_6_8) (small := sm8) nc8 ok24 i1_n8_3 i2_n8_3 tw_n8_3_3 (by decide) lf_n8_3_3 (far_skip (p := 37) (n := nu_37_6_2.length) (exps := ex_0_2_6) (S := bkS 37 nu_37_6_2 ex_0_2_6) (by decide +kernel) (by decide +kernel))
theorem tl_n8_3_4 (g : Addr) (lst least : Sl) : nt7 g [.pt g, lst, .val (eN 37), .val (eN 1), .val (eN 6), .val (eN 2), .val (eN 3), .val (.list (ex_0_2_6_8.map eN)), least, .val (eN 4), .no, .no, .no, .no, .no, .no, .no, .no, .no, .no] (fun out => out = .rt (.bool true)) :=
  nested_tail (p := 37) (few := 1) (wide := 6) (many := 2) (inner := 3) (told := 4) (nums := nu_37_6_2) (used := ex_0_2_6_8) (small := sm8) nc8 ok25 i1_n8_3 i2_n8_3 tw_n8_3_4 (by decide) lf_n8_3_4 (far_skip (p := 37) (n := nu_37_6_2.length) (exps := ex_0_2_6_8) (S := bkS 37 nu_37_6_2 ex_0_2_6_8) (by decide +kernel) (by decide +kernel))
theorem in_n8_3 (g : Addr) (lst : Sl) : wSeq (wP v4__law_nested_right) (wSeq (wP v5__law_nested_right) (wSeq v6__law_nested_right nt7)) g [.pt g, lst, .val (eN 37), .val (eN 1), .val (eN 6), .val (eN 2), .val (eN 3), .no, .no, .no, .no, .no, .no, .no, .no, .no, .no, .no, .no, .no] (fun out => out = .rt (.bool true)) := by
  refine wP_nx (r1 := [.pt g, lst, .val (eN 37), .val (eN 1), .val (eN 6), .val (eN 2), .val (eN 3), .val (.list (ex_0_2_6_8.map eN)), .no, .no, .no, .no, .no, .no, .no, .no, .no, .no, .no, .no]) (nfit8 3 g lst _ (by decide +kernel)) ?_
  refine wP_nx (r1 := [.pt g, lst, .val (eN 37), .val (eN 1), .val (eN 6), .val (eN 2), .val (eN 3), .val (.list (ex_0_2_6_8.map eN)), .val (eN 3), .no, .no, .no, .no, .no, .no, .no, .no, .no, .no, .no]) rfl ?_
  refine ⟨3, rfl, rfl, 2, rfl, by decide, by decide, fun i i0 i1 => ⟨i, rfl, ?_⟩⟩
  have hi : i = 0 ∨ i = 1 := by omega
  rcases hi with rfl | rfl
  · exact tl_n8_3_3 g lst (.val (eN 3))
  · exact tl_n8_3_4 g lst (.val (eN 3))
theorem ch_n8 (g : Addr) (lst : Sl) : wSeq v3__law_nested_right (wSeq (wP v4__law_nested_right) (wSeq (wP v5__law_nested_right) (wSeq v6__law_nested_right nt7))) g [.pt g, lst, .val (eN 37), .val (eN 1), .val (eN 6), .val (eN 2), .val (eN 3), .no, .no, .no, .no, .no, .no, .no, .no, .no, .no, .no, .no, .no] (fun out => out = .rt (.bool true)) := by
  exact ⟨true, rfl, eN 3, rfl, in_n8_3 g lst⟩
theorem tl_n9_1_1 (g : Addr) (lst least : Sl) : nt7 g [.pt g, lst, .val (eN 29), .val (eN 3), .val (eN 4), .val (eN 2), .val (eN 1), .val (.list (ex_0_4.map eN)), least, .val (eN 1), .no, .no, .no, .no, .no, .no, .no, .no, .no, .no] (fun out => out = .rt (.bool true)) :=
  nested_tail (p := 29) (few := 3) (wide := 4) (many := 2) (inner := 1) (told := 1) (nums := nu_29_4_2) (used := ex_0_4) (small := sm9) nc9 ok26 i1_n9_1 i2_n9_1 tw_n9_1_1 (by decide) lf_n9_1_1 (far_ok (p := 29) (n := nu_29_4_2.length) (exps := ex_0) (S := bkS 29 nu_29_4_2 ex_0) (a := 0) (as := []) (d := 8) rfl (by decide +kernel) (ap_facts ok26 lots8 wb20 ap20).1 (ap_facts ok26 lots8 wb20 ap20).2 (by decide +kernel))
theorem tl_n9_1_2 (g : Addr) (lst least : Sl) : nt7 g [.pt g, lst, .val (eN 29), .val (eN 3), .val (eN 4), .val (eN 2), .val (eN 1), .val (.list (ex_0_4.map eN)), least, .val (eN 2), .no, .no, .no, .no, .no, .no, .no, .no, .no, .no] (fun out => out = .rt (.bool true)) :=
  nested_tail (p := 29) (few := 3) (wide := 4) (many := 2) (inner := 1) (told := 2) (nums := nu_29_4_2) (used := ex_0_4) (small := sm9) nc9 ok27 i1_n9_1 i2_n9_1 tw_n9_1_2 (by decide) lf_n9_1_2 (far_ok (p := 29) (n := nu_29_4_2.length) (exps := ex_0_4) (S := bkS 29 nu_29_4_2 ex_0_4) (a := 0) (as := [4]) (d := 4) rfl (by decide +kernel) (ap_facts ok27 lots8 wb21 ap21).1 (ap_facts ok27 lots8 wb21 ap21).2 (by decide +kernel))
theorem in_n9_1 (g : Addr) (lst : Sl) : wSeq (wP v4__law_nested_right) (wSeq (wP v5__law_nested_right) (wSeq v6__law_nested_right nt7)) g [.pt g, lst, .val (eN 29), .val (eN 3), .val (eN 4), .val (eN 2), .val (eN 1), .no, .no, .no, .no, .no, .no, .no, .no, .no, .no, .no, .no, .no] (fun out => out = .rt (.bool true)) := by
  refine wP_nx (r1 := [.pt g, lst, .val (eN 29), .val (eN 3), .val (eN 4), .val (eN 2), .val (eN 1), .val (.list (ex_0_4.map eN)), .no, .no, .no, .no, .no, .no, .no, .no, .no, .no, .no, .no]) (nfit9 1 g lst _ (by decide +kernel)) ?_
  refine wP_nx (r1 := [.pt g, lst, .val (eN 29), .val (eN 3), .val (eN 4), .val (eN 2), .val (eN 1), .val (.list (ex_0_4.map eN)), .val (eN 1), .no, .no, .no, .no, .no, .no, .no, .no, .no, .no, .no]) rfl ?_
  refine ⟨1, rfl, rfl, 2, rfl, by decide, by decide, fun i i0 i1 => ⟨i, rfl, ?_⟩⟩
  have hi : i = 0 ∨ i = 1 := by omega
  rcases hi with rfl | rfl
  · exact tl_n9_1_1 g lst (.val (eN 1))
  · exact tl_n9_1_2 g lst (.val (eN 1))
theorem tl_n9_2_1 (g : Addr) (lst least : Sl) : nt7 g [.pt g, lst, .val (eN 29), .val (eN 3), .val (eN 4), .val (eN 2), .val (eN 2), .val (.list (ex_0_1_4_5.map eN)), least, .val (eN 1), .no, .no, .no, .no, .no, .no, .no, .no, .no, .no] (fun out => out = .rt (.bool true)) :=
  nested_tail (p := 29) (few := 3) (wide := 4) (many := 2) (inner := 2) (told := 1) (nums := nu_29_4_2) (used := ex_0_1_4_5) (small := sm9) nc9 ok26 i1_n9_2 i2_n9_2 tw_n9_2_1 (by decide) lf_n9_2_1 (far_ok (p := 29) (n := nu_29_4_2.length) (exps := ex_0) (S := bkS 29 nu_29_4_2 ex_0) (a := 0) (as := []) (d := 8) rfl (by decide +kernel) (ap_facts ok26 lots8 wb20 ap20).1 (ap_facts ok26 lots8 wb20 ap20).2 (by decide +kernel))
theorem tl_n9_2_2 (g : Addr) (lst least : Sl) : nt7 g [.pt g, lst, .val (eN 29), .val (eN 3), .val (eN 4), .val (eN 2), .val (eN 2), .val (.list (ex_0_1_4_5.map eN)), least, .val (eN 2), .no, .no, .no, .no, .no, .no, .no, .no, .no, .no] (fun out => out = .rt (.bool true)) :=
  nested_tail (p := 29) (few := 3) (wide := 4) (many := 2) (inner := 2) (told := 2) (nums := nu_29_4_2) (used := ex_0_1_4_5) (small := sm9) nc9 ok28 i1_n9_2 i2_n9_2 tw_n9_2_2 (by decide) lf_n9_2_2 (far_ok (p := 29) (n := nu_29_4_2.length) (exps := ex_0_1) (S := bkS 29 nu_29_4_2 ex_0_1) (a := 0) (as := [1]) (d := 7) rfl (by decide +kernel) (ap_facts ok28 lots8 wb22 ap22).1 (ap_facts ok28 lots8 wb22 ap22).2 (by decide +kernel))
theorem tl_n9_2_3 (g : Addr) (lst least : Sl) : nt7 g [.pt g, lst, .val (eN 29), .val (eN 3), .val (eN 4), .val (eN 2), .val (eN 2), .val (.list (ex_0_1_4_5.map eN)), least, .val (eN 3), .no, .no, .no, .no, .no, .no, .no, .no, .no, .no] (fun out => out = .rt (.bool true)) :=
  nested_tail (p := 29) (few := 3) (wide := 4) (many := 2) (inner := 2) (told := 3) (nums := nu_29_4_2) (used := ex_0_1_4_5) (small := sm9) nc9 ok29 i1_n9_2 i2_n9_2 tw_n9_2_3 (by decide) lf_n9_2_3 (far_ok (p := 29) (n := nu_29_4_2.length) (exps := ex_0_1_4) (S := bkS 29 nu_29_4_2 ex_0_1_4) (a := 0) (as := [1, 4]) (d := 4) rfl (by decide +kernel) (ap_facts ok29 lots8 wb23 ap23).1 (ap_facts ok29 lots8 wb23 ap23).2 (by decide +kernel))
theorem tl_n9_2_4 (g : Addr) (lst least : Sl) : nt7 g [.pt g, lst, .val (eN 29), .val (eN 3), .val (eN 4), .val (eN 2), .val (eN 2), .val (.list (ex_0_1_4_5.map eN)), least, .val (eN 4), .no, .no, .no, .no, .no, .no, .no, .no, .no, .no] (fun out => out = .rt (.bool true)) :=
  nested_tail (p := 29) (few := 3) (wide := 4) (many := 2) (inner := 2) (told := 4) (nums := nu_29_4_2) (used := ex_0_1_4_5) (small := sm9) nc9 ok30 i1_n9_2 i2_n9_2 tw_n9_2_4 (by decide) lf_n9_2_4 (far_ok (p := 29) (n := nu_29_4_2.length) (exps := ex_0_1_4_5) (S := bkS 29 nu_29_4_2 ex_0_1_4_5) (a := 0) (as := [1, 4, 5]) (d := 3) rfl (by decide +kernel) (ap_facts ok30 lots8 wb24 ap24).1 (ap_facts ok30 lots8 wb24 ap24).2 (by decide +kernel))
theorem in_n9_2 (g : Addr) (lst : Sl) : wSeq (wP v4__law_nested_right) (wSeq (wP v5__law_nested_right) (wSeq v6__law_nested_right nt7)) g [.pt g, lst, .val (eN 29), .val (eN 3), .val (eN 4), .val (eN 2), .val (eN 2), .no, .no, .no, .no, .no, .no, .no, .no, .no, .no, .no, .no, .no] (fun out => out = .rt (.bool true)) := by
  refine wP_nx (r1 := [.pt g, lst, .val (eN 29), .val (eN 3), .val (eN 4), .val (eN 2), .val (eN 2), .val (.list (ex_0_1_4_5.map eN)), .no, .no, .no, .no, .no, .no, .no, .no, .no, .no, .no, .no]) (nfit9 2 g lst _ (by decide +kernel)) ?_
  refine wP_nx (r1 := [.pt g, lst, .val (eN 29), .val (eN 3), .val (eN 4), .val (eN 2), .val (eN 2), .val (.list (ex_0_1_4_5.map eN)), .val (eN 1), .no, .no, .no, .no, .no, .no, .no, .no, .no, .no, .no]) rfl ?_
  refine ⟨1, rfl, rfl, 4, rfl, by decide, by decide, fun i i0 i1 => ⟨i, rfl, ?_⟩⟩
  have hi : i = 0 ∨ i = 1 ∨ i = 2 ∨ i = 3 := by omega
  rcases hi with rfl | rfl | rfl | rfl
  · exact tl_n9_2_1 g lst (.val (eN 1))
  · exact tl_n9_2_2 g lst (.val (eN 1))
  · exact tl_n9_2_3 g lst (.val (eN 1))
  · exact tl_n9_2_4 g lst (.val (eN 1))
theorem tl_n9_3_1 (g : Addr) (lst least : Sl) : nt7 g [.pt g, lst, .val (eN 29), .val (eN 3), .val (eN 4), .val (eN 2), .val (eN 3), .val (.list (ex_0_1_2_4_5_6.map eN)), least, .val (eN 1), .no, .no, .no, .no, .no, .no, .no, .no, .no, .no] (fun out => out = .rt (.bool true)) :=
  nested_tail (p := 29) (few := 3) (wide := 4) (many := 2) (inner := 3) (told := 1) (nums := nu_29_4_2) (used := ex_0_1_2_4_5_6) (small := sm9) nc9 ok26 i1_n9_3 i2_n9_3 tw_n9_3_1 (by decide) lf_n9_3_1 (far_ok (p := 29) (n := nu_29_4_2.length) (exps := ex_0) (S := bkS 29 nu_29_4_2 ex_0) (a := 0) (as := []) (d := 8) rfl (by decide +kernel) (ap_facts ok26 lots8 wb20 ap20).1 (ap_facts ok26 lots8 wb20 ap20).2 (by decide +kernel))
theorem tl_n9_3_2 (g : Addr) (lst least : Sl) : nt7 g [.pt g, lst, .val (eN 29), .val (eN 3), .val (eN 4), .val (eN 2), .val (eN 3), .val (.list (ex_0_1_2_4_5_6.map eN)), least, .val (eN 2), .no, .no, .no, .no, .no, .no, .no, .no, .no, .no] (fun out => out = .rt (.bool true)) :=
  nested_tail (p := 29) (few := 3) (wide := 4) (many := 2) (inner := 3) (told := 2) (nums := nu_29_4_2) (used := ex_0_1_2_4_5_6) (small := sm9) nc9 ok28 i1_n9_3 i2_n9_3 tw_n9_3_2 (by decide) lf_n9_3_2 (far_ok (p := 29) (n := nu_29_4_2.length) (exps := ex_0_1) (S := bkS 29 nu_29_4_2 ex_0_1) (a := 0) (as := [1]) (d := 7) rfl (by decide +kernel) (ap_facts ok28 lots8 wb22 ap22).1 (ap_facts ok28 lots8 wb22 ap22).2 (by decide +kernel))
theorem tl_n9_3_3 (g : Addr) (lst least : Sl) : nt7 g [.pt g, lst, .val (eN 29), .val (eN 3), .val (eN 4), .val (eN 2), .val (eN 3), .val (.list (ex_0_1_2_4_5_6.map eN)), least, .val (eN 3), .no, .no, .no, .no, .no, .no, .no, .no, .no, .no] (fun out => out = .rt (.bool true)) :=
  nested_tail (p := 29) (few := 3) (wide := 4) (many := 2) (inner := 3) (told := 3) (nums := nu_29_4_2) (used := ex_0_1_2_4_5_6) (small := sm9) nc9 ok31 i1_n9_3 i2_n9_3 tw_n9_3_3 (by decide) lf_n9_3_3 (far_ok (p := 29) (n := nu_29_4_2.length) (exps := ex_0_1_2) (S := bkS 29 nu_29_4_2 ex_0_1_2) (a := 0) (as := [1, 2]) (d := 6) rfl (by decide +kernel) (ap_facts ok31 lots8 wb25 ap25).1 (ap_facts ok31 lots8 wb25 ap25).2 (by decide +kernel))
theorem tl_n9_3_4 (g : Addr) (lst least : Sl) : nt7 g [.pt g, lst, .val (eN 29), .val (eN 3), .val (eN 4), .val (eN 2), .val (eN 3), .val (.list (ex_0_1_2_4_5_6.map eN)), least, .val (eN 4), .no, .no, .no, .no, .no, .no, .no, .no, .no, .no] (fun out => out = .rt (.bool true)) :=
  nested_tail (p := 29) (few := 3) (wide := 4) (many := 2) (inner := 3) (told := 4) (nums := nu_29_4_2) (used := ex_0_1_2_4_5_6) (small := sm9) nc9 ok32 i1_n9_3 i2_n9_3 tw_n9_3_4 (by decide) lf_n9_3_4 (far_ok (p := 29) (n := nu_29_4_2.length) (exps := ex_0_1_2_4) (S := bkS 29 nu_29_4_2 ex_0_1_2_4) (a := 0) (as := [1, 2, 4]) (d := 4) rfl (by decide +kernel) (ap_facts ok32 lots8 wb26 ap26).1 (ap_facts ok32 lots8 wb26 ap26).2 (by decide +kernel))
theorem tl_n9_3_5 (g : Addr) (lst least : Sl) : nt7 g [.pt g, lst, .val (eN 29), .val (eN 3), .val (eN 4), .val (eN 2), .val (eN 3), .val (.list (ex_0_1_2_4_5_6.map eN)), least, .val (eN 5), .no, .no, .no, .no, .no, .no, .no, .no, .no, .no] (fun out => out = .rt (.bool true)) :=
  nested_tail (p := 29) (few := 3) (wide := 4) (many := 2) (inner := 3) (told := 5) (nums := nu_29_4_2) (used := ex_0_1_2_4_5_6) (small := sm9) nc9 ok33 i1_n9_3 i2_n9_3 tw_n9_3_5 (by decide) lf_n9_3_5 (far_ok (p := 29) (n := nu_29_4_2.length) (exps := ex_0_1_2_4_5) (S := bkS 29 nu_29_4_2 ex_0_1_2_4_5) (a := 0) (as := [1, 2, 4, 5]) (d := 3) rfl (by decide +kernel) (ap_facts ok33 lots8 wb27 ap27).1 (ap_facts ok33 lots8 wb27 ap27).2 (by decide +kernel))
theorem tl_n9_3_6 (g : Addr) (lst least : Sl) : nt7 g [.pt g, lst, .val (eN 29), .val (eN 3), .val (eN 4), .val (eN 2), .val (eN 3), .val (.list (ex_0_1_2_4_5_6.map eN)), least, .val (eN 6), .no, .no, .no, .no, .no, .no, .no, .no, .no, .no] (fun out => out = .rt (.bool true)) :=
  nested_tail (p := 29) (few := 3) (wide := 4) (many := 2) (inner := 3) (told := 6) (nums := nu_29_4_2) (used := ex_0_1_2_4_5_6) (small := sm9) nc9 ok34 i1_n9_3 i2_n9_3 tw_n9_3_6 (by decide) lf_n9_3_6 (far_ok (p := 29) (n := nu_29_4_2.length) (exps := ex_0_1_2_4_5_6) (S := bkS 29 nu_29_4_2 ex_0_1_2_4_5_6) (a := 0) (as := [1, 2, 4, 5, 6]) (d := 2) rfl (by decide +kernel) (ap_facts ok34 lots8 wb28 ap28).1 (ap_facts ok34 lots8 wb28 ap28).2 (by decide +kernel))
theorem in_n9_3 (g : Addr) (lst : Sl) : wSeq (wP v4__law_nested_right) (wSeq (wP v5__law_nested_right) (wSeq v6__law_nested_right nt7)) g [.pt g, lst, .val (eN 29), .val (eN 3), .val (eN 4), .val (eN 2), .val (eN 3), .no, .no, .no, .no, .no, .no, .no, .no, .no, .no, .no, .no, .no] (fun out => out = .rt (.bool true)) := by
  refine wP_nx (r1 := [.pt g, lst, .val (eN 29), .val (eN 3), .val (eN 4), .val (eN 2), .val (eN 3), .val (.list (ex_0_1_2_4_5_6.map eN)), .no, .no, .no, .no, .no, .no, .no, .no, .no, .no, .no, .no]) (nfit9 3 g lst _ (by decide +kernel)) ?_
  refine wP_nx (r1 := [.pt g, lst, .val (eN 29), .val (eN 3), .val (eN 4), .val (eN 2), .val (eN 3), .val (.list (ex_0_1_2_4_5_6.map eN)), .val (eN 1), .no, .no, .no, .no, .no, .no, .no, .no, .no, .no, .no]) rfl ?_
  refine ⟨1, rfl, rfl, 6, rfl, by decide, by decide, fun i i0 i1 => ⟨i, rfl, ?_⟩⟩
  have hi : i = 0 ∨ i = 1 ∨ i = 2 ∨ i = 3 ∨ i = 4 ∨ i = 5 := by omega
  rcases hi with rfl | rfl | rfl | rfl | rfl | rfl
  · exact tl_n9_3_1 g lst (.val (eN 1))
  · exact tl_n9_3_2 g lst (.val (eN 1))
  · exact tl_n9_3_3 g lst (.val (eN 1))
  · exact tl_n9_3_4 g lst (.val (eN 1))
  · exact tl_n9_3_5 g lst (.val (eN 1))
  · exact tl_n9_3_6 g lst (.val (eN 1))
theorem tl_n9_4_1 (g : Addr) (lst least : Sl) : nt7 g [.pt g, lst, .val (eN 29), .val (eN 3), .val (eN 4), .val (eN 2), .val (eN 4), .val (.list (ex_0_1_2_4_5_6.map eN)), least, .val (eN 1), .no, .no, .no, .no, .no, .no, .no, .no, .no, .no] (fun out => out = .rt (.bool true)) :=
  nested_tail (p := 29) (few := 3) (wide := 4) (many := 2) (inner := 4) (told := 1) (nums := nu_29_4_2) (used := ex_0_1_2_4_5_6) (small := sm9) nc9 ok26 i1_n9_4 i2_n9_4 tw_n9_4_1 (by decide) lf_n9_4_1 (far_ok (p := 29) (n := nu_29_4_2.length) (exps := ex_0) (S := bkS 29 nu_29_4_2 ex_0) (a := 0) (as := []) (d := 8) rfl (by decide +kernel) (ap_facts ok26 lots8 wb20 ap20).1 (ap_facts ok26 lots8 wb20 ap20).2 (by decide +kernel))
theorem tl_n9_4_2 (g : Addr) (lst least : Sl) : nt7 g [.pt g, lst, .val (eN 29), .val (eN 3), .val (eN 4), .val (eN 2), .val (eN 4), .val (.list (ex_0_1_2_4_5_6.map eN)), least, .val (eN 2), .no, .no, .no, .no, .no, .no, .no, .no, .no, .no] (fun out => out = .rt (.bool true)) :=
  nested_tail (p := 29) (few := 3) (wide := 4) (many := 2) (inner := 4) (told := 2) (nums := nu_29_4_2) (used := ex_0_1_2_4_5_6) (small := sm9) nc9 ok28 i1_n9_4 i2_n9_4 tw_n9_4_2 (by decide) lf_n9_4_2 (far_ok (p := 29) (n := nu_29_4_2.length) (exps := ex_0_1) (S := bkS 29 nu_29_4_2 ex_0_1) (a := 0) (as := [1]) (d := 7) rfl (by decide +kernel) (ap_facts ok28 lots8 wb22 ap22).1 (ap_facts ok28 lots8 wb22 ap22).2 (by decide +kernel))
theorem tl_n9_4_3 (g : Addr) (lst least : Sl) : nt7 g [.pt g, lst, .val (eN 29), .val (eN 3), .val (eN 4), .val (eN 2), .val (eN 4), .val (.list (ex_0_1_2_4_5_6.map eN)), least, .val (eN 3), .no, .no, .no, .no, .no, .no, .no, .no, .no, .no] (fun out => out = .rt (.bool true)) :=
  nested_tail (p := 29) (few := 3) (wide := 4) (many := 2) (inner := 4) (told := 3) (nums := nu_29_4_2) (used := ex_0_1_2_4_5_6) (small := sm9) nc9 ok31 i1_n9_4 i2_n9_4 tw_n9_4_3 (by decide) lf_n9_4_3 (far_ok (p := 29) (n := nu_29_4_2.length) (exps := ex_0_1_2) (S := bkS 29 nu_29_4_2 ex_0_1_2) (a := 0) (as := [1, 2]) (d := 6) rfl (by decide +kernel) (ap_facts ok31 lots8 wb25 ap25).1 (ap_facts ok31 lots8 wb25 ap25).2 (by decide +kernel))
theorem tl_n9_4_4 (g : Addr) (lst least : Sl) : nt7 g [.pt g, lst, .val (eN 29), .val (eN 3), .val (eN 4), .val (eN 2), .val (eN 4), .val (.list (ex_0_1_2_4_5_6.map eN)), least, .val (eN 4), .no, .no, .no, .no, .no, .no, .no, .no, .no, .no] (fun out => out = .rt (.bool true)) :=
  nested_tail (p := 29) (few := 3) (wide := 4) (many := 2) (inner := 4) (told := 4) (nums := nu_29_4_2) (used := ex_0_1_2_4_5_6) (small := sm9) nc9 ok32 i1_n9_4 i2_n9_4 tw_n9_4_4 (by decide) lf_n9_4_4 (far_ok (p := 29) (n := nu_29_4_2.length) (exps := ex_0_1_2_4) (S := bkS 29 nu_29_4_2 ex_0_1_2_4) (a := 0) (as := [1, 2, 4]) (d := 4) rfl (by decide +kernel) (ap_facts ok32 lots8 wb26 ap26).1 (ap_facts ok32 lots8 wb26 ap26).2 (by decide +kernel))
theorem tl_n9_4_5 (g : Addr) (lst least : Sl) : nt7 g [.pt g, lst, .val (eN 29), .val (eN 3), .val (eN 4), .val (eN 2), .val (eN 4), .val (.list (ex_0_1_2_4_5_6.map eN)), least, .val (eN 5), .no, .no, .no, .no, .no, .no, .no, .no, .no, .no] (fun out => out = .rt (.bool true)) :=
  nested_tail (p := 29) (few := 3) (wide := 4) (many := 2) (inner := 4) (told := 5) (nums := nu_29_4_2) (used := ex_0_1_2_4_5_6) (small := sm9) nc9 ok33 i1_n9_4 i2_n9_4 tw_n9_4_5 (by decide) lf_n9_4_5 (far_ok (p := 29) (n := nu_29_4_2.length) (exps := ex_0_1_2_4_5) (S := bkS 29 nu_29_4_2 ex_0_1_2_4_5) (a := 0) (as := [1, 2, 4, 5]) (d := 3) rfl (by decide +kernel) (ap_facts ok33 lots8 wb27 ap27).1 (ap_facts ok33 lots8 wb27 ap27).2 (by decide +kernel))
theorem tl_n9_4_6 (g : Addr) (lst least : Sl) : nt7 g [.pt g, lst, .val (eN 29), .val (eN 3), .val (eN 4), .val (eN 2), .val (eN 4), .val (.list (ex_0_1_2_4_5_6.map eN)), least, .val (eN 6), .no, .no, .no, .no, .no, .no, .no, .no, .no, .no] (fun out => out = .rt (.bool true)) :=
  nested_tail (p := 29) (few := 3) (wide := 4) (many := 2) (inner := 4) (told := 6) (nums := nu_29_4_2) (used := ex_0_1_2_4_5_6) (small := sm9) nc9 ok34 i1_n9_4 i2_n9_4 tw_n9_4_6 (by decide) lf_n9_4_6 (far_ok (p := 29) (n := nu_29_4_2.length) (exps := ex_0_1_2_4_5_6) (S := bkS 29 nu_29_4_2 ex_0_1_2_4_5_6) (a := 0) (as := [1, 2, 4, 5, 6]) (d := 2) rfl (by decide +kernel) (ap_facts ok34 lots8 wb28 ap28).1 (ap_facts ok34 lots8 wb28 ap28).2 (by decide +kernel))
theorem in_n9_4 (g : Addr) (lst : Sl) : wSeq (wP v4__law_nested_right) (wSeq (wP v5__law_nested_right) (wSeq v6__law_nested_right nt7)) g [.pt g, lst, .val (eN 29), .val (eN 3), .val (eN 4), .val (eN 2), .val (eN 4), .no, .no, .no, .no, .no, .no, .no, .no, .no, .no, .no, .no, .no] (fun out => out = .rt (.bool true)) := by
  refine wP_nx (r1 := [.pt g, lst, .val (eN 29), .val (eN 3), .val (eN 4), .val (eN 2), .val (eN 4), .val (.list (ex_0_1_2_4_5_6.map eN)), .no, .no, .no, .no, .no, .no, .no, .no, .no, .no, .no, .no]) (nfit9 4 g lst _ (by decide +kernel)) ?_
  refine wP_nx (r1 := [.pt g, lst, .val (eN 29), .val (eN 3), .val (eN 4), .val (eN 2), .val (eN 4), .val (.list (ex_0_1_2_4_5_6.map eN)), .val (eN 1), .no, .no, .no, .no, .no, .no, .no, .no, .no, .no, .no]) rfl ?_
  refine ⟨1, rfl, rfl, 6, rfl, by decide, by decide, fun i i0 i1 => ⟨i, rfl, ?_⟩⟩
  have hi : i = 0 ∨ i = 1 ∨ i = 2 ∨ i = 3 ∨ i = 4 ∨ i = 5 := by omega
  rcases hi with rfl | rfl | rfl | rfl | rfl | rfl
  · exact tl_n9_4_1 g lst (.val (eN 1))
  · exact tl_n9_4_2 g lst (.val (eN 1))
  · exact tl_n9_4_3 g lst (.val (eN 1))
  · exact tl_n9_4_4 g lst (.val (eN 1))
  · exact tl_n9_4_5 g lst (.val (eN 1))
  · exact tl_n9_4_6 g lst (.val (eN 1))
theorem ch_n9 (g : Addr) (lst : Sl) : wSeq v3__law_nested_right (wSeq (wP v4__law_nested_right) (wSeq (wP v5__law_nested_right) (wSeq v6__law_nested_right nt7))) g [.pt g, lst, .val (eN 29), .val (eN 3), .val (eN 4), .val (eN 2), .val (eN 0), .no, .no, .no, .no, .no, .no, .no, .no, .no, .no, .no, .no, .no] (fun out => out = .rt (.bool true)) := by
  refine ⟨false, rfl, 1, rfl, rfl, 4, rfl, by decide, by decide, fun i i0 i1 => ⟨i, rfl, ?_⟩⟩
  have hi : i = 0 ∨ i = 1 ∨ i = 2 ∨ i = 3 := by omega
  rcases hi with rfl | rfl | rfl | rfl
  · exact in_n9_1 g lst
  · exact in_n9_2 g lst
  · exact in_n9_3 g lst
  · exact in_n9_4 g lst
theorem tl_c0_1 (g : Addr) (lst least : Sl) : ct6 g [.pt g, lst, .val (eN 7), .val (eN 2), .val (eN 3), .val (eN 1), .val (eN 6), .val (.list (ex_0_4.map eN)), least, .val (eN 1), .no, .no, .no, .no, .no, .no, .no, .no, .no, .no, .no] (fun out => out = .rt (.bool true)) :=
  crossed_tail (p := 7) (one := 2) (other := 3) (many := 1) (told := 1) (nums := nu_7_6_1) (used := ex_0_4) (first := fi0) (second := se0) cc0 ok0 i2_c0 tw_c0_1 lf_c0_1 (far_ok (p := 7) (n := nu_7_6_1.length) (exps := ex_0) (S := bkS 7 nu_7_6_1 ex_0) (a := 0) (as := []) (d := 6) rfl (by decide +kernel) (ap_facts ok0 lots6 wb0 ap0).1 (ap_facts ok0 lots6 wb0 ap0).2 (by decide +kernel))
theorem tl_c0_2 (g : Addr) (lst least : Sl) : ct6 g [.pt g, lst, .val (eN 7), .val (eN 2), .val (eN 3), .val (eN 1), .val (eN 6), .val (.list (ex_0_4.map eN)), least, .val (eN 2), .no, .no, .no, .no, .no, .no, .no, .no, .no, .no, .no] (fun out => out = .rt (.bool true)) :=
  crossed_tail (p := 7) (one := 2) (other := 3) (many := 1) (told := 2) (nums := nu_7_6_1) (used := ex_0_4) (first := fi0) (second := se0) cc0 ok35 i2_c0 tw_c0_2 lf_c0_2 (far_ok (p := 7) (n := nu_7_6_1.length) (exps := ex_0_4) (S := bkS 7 nu_7_6_1 ex_0_4) (a := 0) (as := [4]) (d := 4) rfl (by decide +kernel) (ap_facts ok35 lots6 wb29 ap29).1 (ap_facts ok35 lots6 wb29 ap29).2 (by decide +kernel))
theorem ch_c0 (g : Addr) (lst : Sl) : wSeq (wP v2__law_crossed_right) (wSeq (wP v3__law_crossed_right) (wSeq (wP v4__law_crossed_right) (wSeq v5__law_crossed_right ct6))) g [.pt g, lst, .val (eN 7), .val (eN 2), .val (eN 3), .val (eN 1), .no, .no, .no, .no, .no, .no, .no, .no, .no, .no, .no, .no, .no, .no, .no] (fun out => out = .rt (.bool true)) := by
  refine wP_nx (r1 := [.pt g, lst, .val (eN 7), .val (eN 2), .val (eN 3), .val (eN 1), .val (eN 6), .no, .no, .no, .no, .no, .no, .no, .no, .no, .no, .no, .no, .no, .no]) rfl ?_
  refine wP_nx (r1 := [.pt g, lst, .val (eN 7), .val (eN 2), .val (eN 3), .val (eN 1), .val (eN 6), .val (.list (ex_0_4.map eN)), .no, .no, .no, .no, .no, .no, .no, .no, .no, .no, .no, .no, .no]) (cfit0 g lst _ (by decide +kernel)) ?_
  refine wP_nx (r1 := [.pt g, lst, .val (eN 7), .val (eN 2), .val (eN 3), .val (eN 1), .val (eN 6), .val (.list (ex_0_4.map eN)), .val (eN 1), .no, .no, .no, .no, .no, .no, .no, .no, .no, .no, .no, .no]) rfl ?_
  refine ⟨1, rfl, rfl, 2, rfl, by decide, by decide, fun i i0 i1 => ⟨i, rfl, ?_⟩⟩
  have hi : i = 0 ∨ i = 1 := by omega
  rcases hi with rfl | rfl
  · exact tl_c0_1 g lst (.val (eN 1))
  · exact tl_c0_2 g lst (.val (eN 1))
theorem tl_c1_3 (g : Addr) (lst least : Sl) : ct6 g [.pt g, lst, .val (eN 13), .val (eN 3), .val (eN 2), .val (eN 2), .val (eN 12), .val (.list (ex_0_4_6_10.map eN)), least, .val (eN 3), .no, .no, .no, .no, .no, .no, .no, .no, .no, .no, .no] (fun out => out = .rt (.bool true)) :=
  crossed_tail (p := 13) (one := 3) (other := 2) (many := 2) (told := 3) (nums := nu_13_6_2) (used := ex_0_4_6_10) (first := fi1) (second := se1) cc1 ok36 i2_c1 tw_c1_3 lf_c1_3 (far_skip (p := 13) (n := nu_13_6_2.length) (exps := ex_0_4_6) (S := bkS 13 nu_13_6_2 ex_0_4_6) (by decide +kernel) (by decide +kernel))
theorem tl_c1_4 (g : Addr) (lst least : Sl) : ct6 g [.pt g, lst, .val (eN 13), .val (eN 3), .val (eN 2), .val (eN 2), .val (eN 12), .val (.list (ex_0_4_6_10.map eN)), least, .val (eN 4), .no, .no, .no, .no, .no, .no, .no, .no, .no, .no, .no] (fun out => out = .rt (.bool true)) :=
  crossed_tail (p := 13) (one := 3) (other := 2) (many := 2) (told := 4) (nums := nu_13_6_2) (used := ex_0_4_6_10) (first := fi1) (second := se1) cc1 ok37 i2_c1 tw_c1_4 lf_c1_4 (far_skip (p := 13) (n := nu_13_6_2.length) (exps := ex_0_4_6_10) (S := bkS 13 nu_13_6_2 ex_0_4_6_10) (by decide +kernel) (by decide +kernel))
theorem ch_c1 (g : Addr) (lst : Sl) : wSeq (wP v2__law_crossed_right) (wSeq (wP v3__law_crossed_right) (wSeq (wP v4__law_crossed_right) (wSeq v5__law_crossed_right ct6))) g [.pt g, lst, .val (eN 13), .val (eN 3), .val (eN 2), .val (eN 2), .no, .no, .no, .no, .no, .no, .no, .no, .no, .no, .no, .no, .no, .no, .no] (fun out => out = .rt (.bool true)) := by
  refine wP_nx (r1 := [.pt g, lst, .val (eN 13), .val (eN 3), .val (eN 2), .val (eN 2), .val (eN 12), .no, .no, .no, .no, .no, .no, .no, .no, .no, .no, .no, .no, .no, .no]) rfl ?_
  refine wP_nx (r1 := [.pt g, lst, .val (eN 13), .val (eN 3), .val (eN 2), .val (eN 2), .val (eN 12), .val (.list (ex_0_4_6_10.map eN)), .no, .no, .no, .no, .no, .no, .no, .no, .no, .no, .no, .no, .no]) (cfit1 g lst _ (by decide +kernel)) ?_
  refine wP_nx (r1 := [.pt g, lst, .val (eN 13), .val (eN 3), .val (eN 2), .val (eN 2), .val (eN 12), .val (.list (ex_0_4_6_10.map eN)), .val (eN 3), .no, .no, .no, .no, .no, .no, .no, .no, .no, .no, .no, .no]) rfl ?_
  refine ⟨3, rfl, rfl, 2, rfl, by decide, by decide, fun i i0 i1 => ⟨i, rfl, ?_⟩⟩
  have hi : i = 0 ∨ i = 1 := by omega
  rcases hi with rfl | rfl
  · exact tl_c1_3 g lst (.val (eN 3))
  · exact tl_c1_4 g lst (.val (eN 3))
theorem tl_c2_3 (g : Addr) (lst least : Sl) : ct6 g [.pt g, lst, .val (eN 13), .val (eN 3), .val (eN 4), .val (eN 1), .val (eN 12), .val (.list (ex_0_1_4_6_9_10.map eN)), least, .val (eN 3), .no, .no, .no, .no, .no, .no, .no, .no, .no, .no, .no] (fun out => out = .rt (.bool true)) :=
  crossed_tail (p := 13) (one := 3) (other := 4) (many := 1) (told := 3) (nums := nu_13_12_1) (used := ex_0_1_4_6_9_10) (first := fi2) (second := se2) cc2 ok38 i2_c2 tw_c2_3 lf_c2_3 (far_skip (p := 13) (n := nu_13_12_1.length) (exps := ex_0_1_4) (S := bkS 13 nu_13_12_1 ex_0_1_4) (by decide +kernel) (by decide +kernel))
theorem tl_c2_4 (g : Addr) (lst least : Sl) : ct6 g [.pt g, lst, .val (eN 13), .val (eN 3), .val (eN 4), .val (eN 1), .val (eN 12), .val (.list (ex_0_1_4_6_9_10.map eN)), least, .val (eN 4), .no, .no, .no, .no, .no, .no, .no, .no, .no, .no, .no] (fun out => out = .rt (.bool true)) :=
  crossed_tail (p := 13) (one := 3) (other := 4) (many := 1) (told := 4) (nums := nu_13_12_1) (used := ex_0_1_4_6_9_10) (first := fi2) (second := se2) cc2 ok39 i2_c2 tw_c2_4 lf_c2_4 (far_skip (p := 13) (n := nu_13_12_1.length) (exps := ex_0_1_4_6) (S := bkS 13 nu_13_12_1 ex_0_1_4_6) (by decide +kernel) (by decide +kernel))
theorem tl_c2_5 (g : Addr) (lst least : Sl) : ct6 g [.pt g, lst, .val (eN 13), .val (eN 3), .val (eN 4), .val (eN 1), .val (eN 12), .val (.list (ex_0_1_4_6_9_10.map eN)), least, .val (eN 5), .no, .no, .no, .no, .no, .no, .no, .no, .no, .no, .no] (fun out => out = .rt (.bool true)) :=
  crossed_tail (p := 13) (one := 3) (other := 4) (many := 1) (told := 5) (nums := nu_13_12_1) (used := ex_0_1_4_6_9_10) (first := fi2) (second := se2) cc2 ok40 i2_c2 tw_c2_5 lf_c2_5 (far_ok (p := 13) (n := nu_13_12_1.length) (exps := ex_0_1_4_6_9) (S := bkS 13 nu_13_12_1 ex_0_1_4_6_9) (a := 0) (as := [1, 4, 6, 9]) (d := 6) rfl (by decide +kernel) (ap_facts ok40 lots12 wb30 ap30).1 (ap_facts ok40 lots12 wb30 ap30).2 (by decide +kernel))
theorem tl_c2_6 (g : Addr) (lst least : Sl) : ct6 g [.pt g, lst, .val (eN 13), .val (eN 3), .val (eN 4), .val (eN 1), .val (eN 12), .val (.list (ex_0_1_4_6_9_10.map eN)), least, .val (eN 6), .no, .no, .no, .no, .no, .no, .no, .no, .no, .no, .no] (fun out => out = .rt (.bool true)) :=
  crossed_tail (p := 13) (one := 3) (other := 4) (many := 1) (told := 6) (nums := nu_13_12_1) (used := ex_0_1_4_6_9_10) (first := fi2) (second := se2) cc2 ok41 i2_c2 tw_c2_6 lf_c2_6 (far_ok (p := 13) (n := nu_13_12_1.length) (exps := ex_0_1_4_6_9_10) (S := bkS 13 nu_13_12_1 ex_0_1_4_6_9_10) (a := 0) (as := [1, 4, 6, 9, 10]) (d := 4) rfl (by decide +kernel) (ap_facts ok41 lots12 wb31 ap31).1 (ap_facts ok41 lots12 wb31 ap31).2 (by decide +kernel))
theorem ch_c2 (g : Addr) (lst : Sl) : wSeq (wP v2__law_crossed_right) (wSeq (wP v3__law_crossed_right) (wSeq (wP v4__law_crossed_right) (wSeq v5__law_crossed_right ct6))) g [.pt g, lst, .val (eN 13), .val (eN 3), .val (eN 4), .val (eN 1), .no, .no, .no, .no, .no, .no, .no, .no, .no, .no, .no, .no, .no, .no, .no] (fun out => out = .rt (.bool true)) := by
  refine wP_nx (r1 := [.pt g, lst, .val (eN 13), .val (eN 3), .val (eN 4), .val (eN 1), .val (eN 12), .no, .no, .no, .no, .no, .no, .no, .no, .no, .no, .no, .no, .no, .no]) rfl ?_
  refine wP_nx (r1 := [.pt g, lst, .val (eN 13), .val (eN 3), .val (eN 4), .val (eN 1), .val (eN 12), .val (.list (ex_0_1_4_6_9_10.map eN)), .no, .no, .no, .no, .no, .no, .no, .no, .no, .no, .no, .no, .no]) (cfit2 g lst _ (by decide +kernel)) ?_
  refine wP_nx (r1 := [.pt g, lst, .val (eN 13), .val (eN 3), .val (eN 4), .val (eN 1), .val (eN 12), .val (.list (ex_0_1_4_6_9_10.map eN)), .val (eN 3), .no, .no, .no, .no, .no, .no, .no, .no, .no, .no, .no, .no]) rfl ?_
  refine ⟨3, rfl, rfl, 4, rfl, by decide, by decide, fun i i0 i1 => ⟨i, rfl, ?_⟩⟩
  have hi : i = 0 ∨ i = 1 ∨ i = 2 ∨ i = 3 := by omega
  rcases hi with rfl | rfl | rfl | rfl
  · exact tl_c2_3 g lst (.val (eN 3))
  · exact tl_c2_4 g lst (.val (eN 3))
  · exact tl_c2_5 g lst (.val (eN 3))
  · exact tl_c2_6 g lst (.val (eN 3))
theorem tl_c3_1 (g : Addr) (lst least : Sl) : ct6 g [.pt g, lst, .val (eN 11), .val (eN 2), .val (eN 5), .val (eN 1), .val (eN 10), .val (.list (ex_0_2_6_8.map eN)), least, .val (eN 1), .no, .no, .no, .no, .no, .no, .no, .no, .no, .no, .no] (fun out => out = .rt (.bool true)) :=
  crossed_tail (p := 11) (one := 2) (other := 5) (many := 1) (told := 1) (nums := nu_11_10_1) (used := ex_0_2_6_8) (first := fi3) (second := se3) cc3 ok42 i2_c3 tw_c3_1 lf_c3_1 (far_ok (p := 11) (n := nu_11_10_1.length) (exps := ex_0) (S := bkS 11 nu_11_10_1 ex_0) (a := 0) (as := []) (d := 10) rfl (by decide +kernel) (ap_facts ok42 lots10 wb32 ap32).1 (ap_facts ok42 lots10 wb32 ap32).2 (by decide +kernel))
theorem tl_c3_2 (g : Addr) (lst least : Sl) : ct6 g [.pt g, lst, .val (eN 11), .val (eN 2), .val (eN 5), .val (eN 1), .val (eN 10), .val (.list (ex_0_2_6_8.map eN)), least, .val (eN 2), .no, .no, .no, .no, .no, .no, .no, .no, .no, .no, .no] (fun out => out = .rt (.bool true)) :=
  crossed_tail (p := 11) (one := 2) (other := 5) (many := 1) (told := 2) (nums := nu_11_10_1) (used := ex_0_2_6_8) (first := fi3) (second := se3) cc3 ok43 i2_c3 tw_c3_2 lf_c3_2 (far_ok (p := 11) (n := nu_11_10_1.length) (exps := ex_0_2) (S := bkS 11 nu_11_10_1 ex_0_2) (a := 0) (as := [2]) (d := 8) rfl (by decide +kernel) (ap_facts ok43 lots10 wb33 ap33).1 (ap_facts ok43 lots10 wb33 ap33).2 (by decide +kernel))
theorem tl_c3_3 (g : Addr) (lst least : Sl) : ct6 g [.pt g, lst, .val (eN 11), .val (eN 2), .val (eN 5), .val (eN 1), .val (eN 10), .val (.list (ex_0_2_6_8.map eN)), least, .val (eN 3), .no, .no, .no, .no, .no, .no, .no, .no, .no, .no, .no] (fun out => out = .rt (.bool true)) :=
  crossed_tail (p := 11) (one := 2) (other := 5) (many := 1) (told := 3) (nums := nu_11_10_1) (used := ex_0_2_6_8) (first := fi3) (second := se3) cc3 ok44 i2_c3 tw_c3_3 lf_c3_3 (far_ok (p := 11) (n := nu_11_10_1.length) (exps := ex_0_2_6) (S := bkS 11 nu_11_10_1 ex_0_2_6) (a := 0) (as := [2, 6]) (d := 6) rfl (by decide +kernel) (ap_facts ok44 lots10 wb34 ap34).1 (ap_facts ok44 lots10 wb34 ap34).2 (by decide +kernel))
theorem tl_c3_4 (g : Addr) (lst least : Sl) : ct6 g [.pt g, lst, .val (eN 11), .val (eN 2), .val (eN 5), .val (eN 1), .val (eN 10), .val (.list (ex_0_2_6_8.map eN)), least, .val (eN 4), .no, .no, .no, .no, .no, .no, .no, .no, .no, .no, .no] (fun out => out = .rt (.bool true)) :=
  crossed_tail (p := 11) (one := 2) (other := 5) (many := 1) (told := 4) (nums := nu_11_10_1) (used := ex_0_2_6_8) (first := fi3) (second := se3) cc3 ok45 i2_c3 tw_c3_4 lf_c3_4 (far_ok (p := 11) (n := nu_11_10_1.length) (exps := ex_0_2_6_8) (S := bkS 11 nu_11_10_1 ex_0_2_6_8) (a := 0) (as := [2, 6, 8]) (d := 4) rfl (by decide +kernel) (ap_facts ok45 lots10 wb35 ap35).1 (ap_facts ok45 lots10 wb35 ap35).2 (by decide +kernel))
theorem ch_c3 (g : Addr) (lst : Sl) : wSeq (wP v2__law_crossed_right) (wSeq (wP v3__law_crossed_right) (wSeq (wP v4__law_crossed_right) (wSeq v5__law_crossed_right ct6))) g [.pt g, lst, .val (eN 11), .val (eN 2), .val (eN 5), .val (eN 1), .no, .no, .no, .no, .no, .no, .no, .no, .no, .no, .no, .no, .no, .no, .no] (fun out => out = .rt (.bool true)) := by
  refine wP_nx (r1 := [.pt g, lst, .val (eN 11), .val (eN 2), .val (eN 5), .val (eN 1), .val (eN 10), .no, .no, .no, .no, .no, .no, .no, .no, .no, .no, .no, .no, .no, .no]) rfl ?_
  refine wP_nx (r1 := [.pt g, lst, .val (eN 11), .val (eN 2), .val (eN 5), .val (eN 1), .val (eN 10), .val (.list (ex_0_2_6_8.map eN)), .no, .no, .no, .no, .no, .no, .no, .no, .no, .no, .no, .no, .no]) (cfit3 g lst _ (by decide +kernel)) ?_
  refine wP_nx (r1 := [.pt g, lst, .val (eN 11), .val (eN 2), .val (eN 5), .val (eN 1), .val (eN 10), .val (.list (ex_0_2_6_8.map eN)), .val (eN 1), .no, .no, .no, .no, .no, .no, .no, .no, .no, .no, .no, .no]) rfl ?_
  refine ⟨1, rfl, rfl, 4, rfl, by decide, by decide, fun i i0 i1 => ⟨i, rfl, ?_⟩⟩
  have hi : i = 0 ∨ i = 1 ∨ i = 2 ∨ i = 3 := by omega
  rcases hi with rfl | rfl | rfl | rfl
  · exact tl_c3_1 g lst (.val (eN 1))
  · exact tl_c3_2 g lst (.val (eN 1))
  · exact tl_c3_3 g lst (.val (eN 1))
  · exact tl_c3_4 g lst (.val (eN 1))
theorem tl_c4_3 (g : Addr) (lst least : Sl) : ct6 g [.pt g, lst, .val (eN 31), .val (eN 2), .val (eN 3), .val (eN 2), .val (eN 12), .val (.list (ex_0_4_6_10.map eN)), least, .val (eN 3), .no, .no, .no, .no, .no, .no, .no, .no, .no, .no, .no] (fun out => out = .rt (.bool true)) :=
  crossed_tail (p := 31) (one := 2) (other := 3) (many := 2) (told := 3) (nums := nu_31_6_2) (used := ex_0_4_6_10) (first := fi4) (second := se4) cc4 ok46 i2_c4 tw_c4_3 lf_c4_3 (far_skip (p := 31) (n := nu_31_6_2.length) (exps := ex_0_4_6) (S := bkS 31 nu_31_6_2 ex_0_4_6) (by decide +kernel) (by decide +kernel))
theorem tl_c4_4 (g : Addr) (lst least : Sl) : ct6 g [.pt g, lst, .val (eN 31), .val (eN 2), .val (eN 3), .val (eN 2), .val (eN 12), .val (.list (ex_0_4_6_10.map eN)), least, .val (eN 4), .no, .no, .no, .no, .no, .no, .no, .no, .no, .no, .no] (fun out => out = .rt (.bool true)) :=
  crossed_tail (p := 31) (one := 2) (other := 3) (many := 2) (told := 4) (nums := nu_31_6_2) (used := ex_0_4_6_10) (first := fi4) (second := se4) cc4 ok47 i2_c4 tw_c4_4 lf_c4_4 (far_skip (p := 31) (n := nu_31_6_2.length) (exps := ex_0_4_6_10) (S := bkS 31 nu_31_6_2 ex_0_4_6_10) (by decide +kernel) (by decide +kernel))
theorem ch_c4 (g : Addr) (lst : Sl) : wSeq (wP v2__law_crossed_right) (wSeq (wP v3__law_crossed_right) (wSeq (wP v4__law_crossed_right) (wSeq v5__law_crossed_right ct6))) g [.pt g, lst, .val (eN 31), .val (eN 2), .val (eN 3), .val (eN 2), .no, .no, .no, .no, .no, .no, .no, .no, .no, .no, .no, .no, .no, .no, .no] (fun out => out = .rt (.bool true)) := by
  refine wP_nx (r1 := [.pt g, lst, .val (eN 31), .val (eN 2), .val (eN 3), .val (eN 2), .val (eN 12), .no, .no, .no, .no, .no, .no, .no, .no, .no, .no, .no, .no, .no, .no]) rfl ?_
  refine wP_nx (r1 := [.pt g, lst, .val (eN 31), .val (eN 2), .val (eN 3), .val (eN 2), .val (eN 12), .val (.list (ex_0_4_6_10.map eN)), .no, .no, .no, .no, .no, .no, .no, .no, .no, .no, .no, .no, .no]) (cfit4 g lst _ (by decide +kernel)) ?_
  refine wP_nx (r1 := [.pt g, lst, .val (eN 31), .val (eN 2), .val (eN 3), .val (eN 2), .val (eN 12), .val (.list (ex_0_4_6_10.map eN)), .val (eN 3), .no, .no, .no, .no, .no, .no, .no, .no, .no, .no, .no, .no]) rfl ?_
  refine ⟨3, rfl, rfl, 2, rfl, by decide, by decide, fun i i0 i1 => ⟨i, rfl, ?_⟩⟩
  have hi : i = 0 ∨ i = 1 := by omega
  rcases hi with rfl | rfl
  · exact tl_c4_3 g lst (.val (eN 3))
  · exact tl_c4_4 g lst (.val (eN 3))
theorem tl_c5_1 (g : Addr) (lst least : Sl) : ct6 g [.pt g, lst, .val (eN 31), .val (eN 5), .val (eN 2), .val (eN 1), .val (eN 10), .val (.list (ex_0_2_6_8.map eN)), least, .val (eN 1), .no, .no, .no, .no, .no, .no, .no, .no, .no, .no, .no] (fun out => out = .rt (.bool true)) :=
  crossed_tail (p := 31) (one := 5) (other := 2) (many := 1) (told := 1) (nums := nu_31_10_1) (used := ex_0_2_6_8) (first := fi5) (second := se5) cc5 ok48 i2_c5 tw_c5_1 lf_c5_1 (far_ok (p := 31) (n := nu_31_10_1.length) (exps := ex_0) (S := bkS 31 nu_31_10_1 ex_0) (a := 0) (as := []) (d := 10) rfl (by decide +kernel) (ap_facts ok48 lots10 wb36 ap36).1 (ap_facts ok48 lots10 wb36 ap36).2 (by decide +kernel))
theorem tl_c5_2 (g : Addr) (lst least : Sl) : ct6 g [.pt g, lst, .val (eN 31), .val (eN 5), .val (eN 2), .val (eN 1), .val (eN 10), .val (.list (ex_0_2_6_8.map eN)), least, .val (eN 2), .no, .no, .no, .no, .no, .no, .no, .no, .no, .no, .no] (fun out => out = .rt (.bool true)) :=
  crossed_tail (p := 31) (one := 5) (other := 2) (many := 1) (told := 2) (nums := nu_31_10_1) (used := ex_0_2_6_8) (first := fi5) (second := se5) cc5 ok49 i2_c5 tw_c5_2 lf_c5_2 (far_ok (p := 31) (n := nu_31_10_1.length) (exps := ex_0_2) (S := bkS 31 nu_31_10_1 ex_0_2) (a := 0) (as := [2]) (d := 8) rfl (by decide +kernel) (ap_facts ok49 lots10 wb37 ap37).1 (ap_facts ok49 lots10 wb37 ap37).2 (by decide +kernel))
theorem tl_c5_3 (g : Addr) (lst least : Sl) : ct6 g [.pt g, lst, .val (eN 31), .val (eN 5), .val (eN 2), .val (eN 1), .val (eN 10), .val (.list (ex_0_2_6_8.map eN)), least, .val (eN 3), .no, .no, .no, .no, .no, .no, .no, .no, .no, .no, .no] (fun out => out = .rt (.bool true)) :=
  crossed_tail (p := 31) (one := 5) (other := 2) (many := 1) (told := 3) (nums := nu_31_10_1) (used := ex_0_2_6_8) (first := fi5) (second := se5) cc5 ok50 i2_c5 tw_c5_3 lf_c5_3 (far_ok (p := 31) (n := nu_31_10_1.length) (exps := ex_0_2_6) (S := bkS 31 nu_31_10_1 ex_0_2_6) (a := 0) (as := [2, 6]) (d := 6) rfl (by decide +kernel) (ap_facts ok50 lots10 wb38 ap38).1 (ap_facts ok50 lots10 wb38 ap38).2 (by decide +kernel))
theorem tl_c5_4 (g : Addr) (lst least : Sl) : ct6 g [.pt g, lst, .val (eN 31), .val (eN 5), .val (eN 2), .val (eN 1), .val (eN 10), .val (.list (ex_0_2_6_8.map eN)), least, .val (eN 4), .no, .no, .no, .no, .no, .no, .no, .no, .no, .no, .no] (fun out => out = .rt (.bool true)) :=
  crossed_tail (p := 31) (one := 5) (other := 2) (many := 1) (told := 4) (nums := nu_31_10_1) (used := ex_0_2_6_8) (first := fi5) (second := se5) cc5 ok51 i2_c5 tw_c5_4 lf_c5_4 (far_ok (p := 31) (n := nu_31_10_1.length) (exps := ex_0_2_6_8) (S := bkS 31 nu_31_10_1 ex_0_2_6_8) (a := 0) (as := [2, 6, 8]) (d := 4) rfl (by decide +kernel) (ap_facts ok51 lots10 wb39 ap39).1 (ap_facts ok51 lots10 wb39 ap39).2 (by decide +kernel))
theorem ch_c5 (g : Addr) (lst : Sl) : wSeq (wP v2__law_crossed_right) (wSeq (wP v3__law_crossed_right) (wSeq (wP v4__law_crossed_right) (wSeq v5__law_crossed_right ct6))) g [.pt g, lst, .val (eN 31), .val (eN 5), .val (eN 2), .val (eN 1), .no, .no, .no, .no, .no, .no, .no, .no, .no, .no, .no, .no, .no, .no, .no] (fun out => out = .rt (.bool true)) := by
  refine wP_nx (r1 := [.pt g, lst, .val (eN 31), .val (eN 5), .val (eN 2), .val (eN 1), .val (eN 10), .no, .no, .no, .no, .no, .no, .no, .no, .no, .no, .no, .no, .no, .no]) rfl ?_
  refine wP_nx (r1 := [.pt g, lst, .val (eN 31), .val (eN 5), .val (eN 2), .val (eN 1), .val (eN 10), .val (.list (ex_0_2_6_8.map eN)), .no, .no, .no, .no, .no, .no, .no, .no, .no, .no, .no, .no, .no]) (cfit5 g lst _ (by decide +kernel)) ?_
  refine wP_nx (r1 := [.pt g, lst, .val (eN 31), .val (eN 5), .val (eN 2), .val (eN 1), .val (eN 10), .val (.list (ex_0_2_6_8.map eN)), .val (eN 1), .no, .no, .no, .no, .no, .no, .no, .no, .no, .no, .no, .no]) rfl ?_
  refine ⟨1, rfl, rfl, 4, rfl, by decide, by decide, fun i i0 i1 => ⟨i, rfl, ?_⟩⟩
  have hi : i = 0 ∨ i = 1 ∨ i = 2 ∨ i = 3 := by omega
  rcases hi with rfl | rfl | rfl | rfl
  · exact tl_c5_1 g lst (.val (eN 1))
  · exact tl_c5_2 g lst (.val (eN 1))
  · exact tl_c5_3 g lst (.val (eN 1))
  · exact tl_c5_4 g lst (.val (eN 1))
theorem tl_c6_1 (g : Addr) (lst least : Sl) : ct6 g [.pt g, lst, .val (eN 19), .val (eN 3), .val (eN 2), .val (eN 1), .val (eN 6), .val (.list (ex_0_4.map eN)), least, .val (eN 1), .no, .no, .no, .no, .no, .no, .no, .no, .no, .no, .no] (fun out => out = .rt (.bool true)) :=
  crossed_tail (p := 19) (one := 3) (other := 2) (many := 1) (told := 1) (nums := nu_19_6_1) (used := ex_0_4) (first := fi6) (second := se6) cc6 ok7 i2_c6 tw_c6_1 lf_c6_1 (far_ok (p := 19) (n := nu_19_6_1.length) (exps := ex_0) (S := bkS 19 nu_19_6_1 ex_0) (a := 0) (as := []) (d := 6) rfl (by decide +kernel) (ap_facts ok7 lots6 wb7 ap7).1 (ap_facts ok7 lots6 wb7 ap7).2 (by decide +kernel))
theorem tl_c6_2 (g : Addr) (lst least : Sl) : ct6 g [.pt g, lst, .val (eN 19), .val (eN 3), .val (eN 2), .val (eN 1), .val (eN 6), .val (.list (ex_0_4.map eN)), least, .val (eN 2), .no, .no, .no, .no, .no, .no, .no, .no, .no, .no, .no] (fun out => out = .rt (.bool true)) :=
  crossed_tail (p := 19) (one := 3) (other := 2) (many := 1) (told := 2) (nums := nu_19_6_1) (used := ex_0_4) (first := fi6) (second := se6) cc6 ok52 i2_c6 tw_c6_2 lf_c6_2 (far_ok (p := 19) (n := nu_19_6_1.length) (exps := ex_0_4) (S := bkS 19 nu_19_6_1 ex_0_4) (a := 0) (as := [4]) (d := 4) rfl (by decide +kernel) (ap_facts ok52 lots6 wb40 ap40).1 (ap_facts ok52 lots6 wb40 ap40).2 (by decide +kernel))
theorem ch_c6 (g : Addr) (lst : Sl) : wSeq (wP v2__law_crossed_right) (wSeq (wP v3__law_crossed_right) (wSeq (wP v4__law_crossed_right) (wSeq v5__law_crossed_right ct6))) g [.pt g, lst, .val (eN 19), .val (eN 3), .val (eN 2), .val (eN 1), .no, .no, .no, .no, .no, .no, .no, .no, .no, .no, .no, .no, .no, .no, .no] (fun out => out = .rt (.bool true)) := by
  refine wP_nx (r1 := [.pt g, lst, .val (eN 19), .val (eN 3), .val (eN 2), .val (eN 1), .val (eN 6), .no, .no, .no, .no, .no, .no, .no, .no, .no, .no, .no, .no, .no, .no]) rfl ?_
  refine wP_nx (r1 := [.pt g, lst, .val (eN 19), .val (eN 3), .val (eN 2), .val (eN 1), .val (eN 6), .val (.list (ex_0_4.map eN)), .no, .no, .no, .no, .no, .no, .no, .no, .no, .no, .no, .no, .no]) (cfit6 g lst _ (by decide +kernel)) ?_
  refine wP_nx (r1 := [.pt g, lst, .val (eN 19), .val (eN 3), .val (eN 2), .val (eN 1), .val (eN 6), .val (.list (ex_0_4.map eN)), .val (eN 1), .no, .no, .no, .no, .no, .no, .no, .no, .no, .no, .no, .no]) rfl ?_
  refine ⟨1, rfl, rfl, 2, rfl, by decide, by decide, fun i i0 i1 => ⟨i, rfl, ?_⟩⟩
  have hi : i = 0 ∨ i = 1 := by omega
  rcases hi with rfl | rfl
  · exact tl_c6_1 g lst (.val (eN 1))
  · exact tl_c6_2 g lst (.val (eN 1))
theorem nestedLaw : NestedLaw := by
  intro g
  show wSeq (wP v0__law_nested_right) (wSeq (wP v1__law_nested_right) (wSeq v2__law_nested_right (wSeq v3__law_nested_right (wSeq (wP v4__law_nested_right) (wSeq (wP v5__law_nested_right) (wSeq v6__law_nested_right nt7)))))) g (.pt g :: List.replicate 19 .no) _
  refine wP_nx (r1 := _) rfl ?_
  refine wP_nx (r1 := _) rfl ?_
  refine ⟨rfl, _, rfl, by decide, by decide, fun d hd => ?_⟩
  simp only [List.mem_append, List.mem_cons, List.not_mem_nil, or_false] at hd
  rcases hd with (rfl | rfl | rfl | rfl | rfl | rfl) | rfl | rfl | rfl | rfl
  · exact ⟨_, _, rfl, rfl, ch_n0 g _⟩
  · exact ⟨_, _, rfl, rfl, ch_n1 g _⟩
  · exact ⟨_, _, rfl, rfl, ch_n2 g _⟩
  · exact ⟨_, _, rfl, rfl, ch_n3 g _⟩
  · exact ⟨_, _, rfl, rfl, ch_n4 g _⟩
  · exact ⟨_, _, rfl, rfl, ch_n5 g _⟩
  · exact ⟨_, _, rfl, rfl, ch_n6 g _⟩
  · exact ⟨_, _, rfl, rfl, ch_n7 g _⟩
  · exact ⟨_, _, rfl, rfl, ch_n8 g _⟩
  · exact ⟨_, _, rfl, rfl, ch_n9 g _⟩
theorem crossedLaw : CrossedLaw := by
  intro g
  show wSeq (wP v0__law_crossed_right) (wSeq v1__law_crossed_right (wSeq (wP v2__law_crossed_right) (wSeq (wP v3__law_crossed_right) (wSeq (wP v4__law_crossed_right) (wSeq v5__law_crossed_right ct6))))) g (.pt g :: List.replicate 20 .no) _
  refine wP_nx (r1 := _) rfl ?_
  refine ⟨rfl, _, rfl, by decide, by decide, fun d hd => ?_⟩
  simp only [List.mem_cons, List.not_mem_nil, or_false] at hd
  rcases hd with rfl | rfl | rfl | rfl | rfl | rfl | rfl
  · exact ⟨_, _, rfl, rfl, ch_c0 g _⟩
  · exact ⟨_, _, rfl, rfl, ch_c1 g _⟩
  · exact ⟨_, _, rfl, rfl, ch_c2 g _⟩
  · exact ⟨_, _, rfl, rfl, ch_c3 g _⟩
  · exact ⟨_, _, rfl, rfl, ch_c4 g _⟩
  · exact ⟨_, _, rfl, rfl, ch_c5 g _⟩
  · exact ⟨_, _, rfl, rfl, ch_c6 g _⟩
end Pl
set_option Elab.async false
set_option linter.all false
set_option maxRecDepth 100000
set_option maxHeartbeats 0
open PySem PySem.W PySem.Calls PyProof.Rows
theorem holds_of (hN : Mf.NestedLaw) (hC : Mf.CrossedLaw) : PySem.Challenge.rw_mendfew_k81_whole_nested_and_crossed.Holds := by
  w_on; o_law
  refine HandSHeadRun.head_any (r := OpenLaw.row PySem.Challenge.rw_mendfew_k81_whole_nested_and_crossed) (q := view (OpenLaw.row PySem.Challenge.rw_mendfew_k81_whole_nested_and_crossed).prog [94]) (H := Mf.hkL) (ob := Mf.obL) (M := 4000) (loose := Mf.nmL) (d := HandSHeadRun.topDef (OpenLaw.row PySem.Challenge.rw_mendfew_k81_whole_nested_and_crossed).prog 94) (kwd := []) Mf.obL_eq
    (by kernel_rfl) (fun s => by kernel_rfl) Mf.runL (by kernel_rfl) (by kernel_rfl) (by kernel_rfl) (by rfl) (by first | assumption | decide +kernel) (by decide +kernel) ⟨rfl, rfl, rfl, rfl, rfl, by decide +kernel⟩ ?hw ?hc
  case hw => w_witness2
  case hc =>
    refine L2.walk_ofE (l := PySem.Challenge.rw_mendfew_k81_whole_nested_and_crossed) (n := 63) (k := 12) (x := "_law_script") (CX := L2.CX0) rfl (by decide) (by kernel_rfl) ⟨rfl, by decide, by decide⟩ ?F (fun _ _ _ _ z => z)
    intro w mg fa h Y G hmg0
    obtain ⟨K, KX, c⟩ := Y
    have hmg : mg ("law" : PySem.Str) = some (.ref fa) := by
      have e : (HandSHeadRun.topDef (OpenLaw.row PySem.Challenge.rw_mendfew_k81_whole_nested_and_crossed).prog 94).name = ("law" : PySem.Str) := by kernel_rfl
      rw [← e]
      exact hmg0
    obtain ⟨fd, hb, hF⟩ := Mf.facts (P := (PySem.Challenge.rw_mendfew_k81_whole_nested_and_crossed).prog) (w := w) KX G hmg c hN hC
    exact ⟨K, fd, Mf.spLaw K, KX, hb, fun H a ns hl _ hS => ⟨a, ns, rfl, hS, hl, fun _ => rfl⟩, hF⟩
theorem PySem.Challenge.cw_mendfew_k81_whole_nested_and_crossed_holds : PySem.Challenge.rw_mendfew_k81_whole_nested_and_crossed.Holds :=
  holds_of Pl.nestedLaw Pl.crossedLaw
