import PyProof.Rows.All
import Wide.All
import OpenK.AllK
import Wide.FinOn
import PySem.Challenge.RW_cloak_k52_whole_showings_explained
import HandS.ForMost
import HandS.ForExc
import HandS.Defaults
import HandS.Deep
import HandS.TupAny
import HandS.Zip
import HandS.Walk
import HandS.HeadHook1
import HandS.HeadHook2
import KE.GoesMore
import KE.KStateDown
import Lean
import HandS.Head0
import HandS.Head1
import HandS.Head2
import HandS.HeadEnd
set_option Elab.async false
set_option linter.all false
set_option maxRecDepth 100000
set_option maxHeartbeats 0
namespace Ck
open PySem
def topS (i : Nat) : Stmt := PySem.Challenge.pw_cloak_k52_whole_showings_explained.main.body.getD i (.Pass ⟨0, 0, 0, 0⟩)
end Ck

/-! The data layer: what a reading does with plain data (PyData), the heap hidden. -/
namespace Ck
open PySem PySem.Spec PyProof.Rows L2

/-! ### values that stand for data -/
mutual
inductive Rp (H : Hp) : V → PyData → Prop
  | non : Rp H .non .none
  | bl (b : Bool) : Rp H (.bl b) (.bool b)
  | int (i : Int) : Rp H (.int i) (.int i)
  | str (x : Str) : Rp H (.str x) (.str x)
  | lst {a : Addr} {xs : List V} {ds : List PyData} : H a = some (.lst xs) → RpA H xs ds → Rp H (.ref a) (.list ds)
  | tup {a : Addr} {xs : List V} {ds : List PyData} : H a = some (.tup xs) → RpA H xs ds → Rp H (.ref a) (.tuple ds)
inductive RpA (H : Hp) : List V → List PyData → Prop
  | nil : RpA H [] []
  | cons {v : V} {vs : List V} {d : PyData} {ds : List PyData} : Rp H v d → RpA H vs ds → RpA H (v :: vs) (d :: ds)
end
mutual
theorem Rp.mono {H H' : Hp} (e : Same H H') : ∀ (d : PyData) (v : V), Rp H v d → Rp H' v d
  | .none, _, h => by cases h; exact .non
  | .bool _, _, h => by cases h; exact .bl _
  | .int _, _, h => by cases h; exact .int _
  | .str _, _, h => by cases h; exact .str _
  | .list ds, _, h => by
    cases h with
    | lst a b => exact .lst (e _ _ a) (RpA.mono e ds _ b)
  | .tuple ds, _, h => by
    cases h with
    | tup a b => exact .tup (e _ _ a) (RpA.mono e ds _ b)
  | .dict _, _, h => by cases h
theorem RpA.mono {H H' : Hp} (e : Same H H') : ∀ (ds : List PyData) (vs : List V), RpA H vs ds → RpA H' vs ds
  | [], _, h => by cases h; exact .nil
  | d :: ds, _, h => by
    cases h with
    | cons a b => exact .cons (Rp.mono e d _ a) (RpA.mono e ds _ b)
end
mutual
theorem Rp.dp {K : PySem.W.Frag} {H : Hp} : ∀ (d : PyData) (v : V), Rp H v d → Dp K H v d
  | .none, _, h => by cases h; exact .non
  | .bool _, _, h => by cases h; exact .bl _
  | .int _, _, h => by cases h; exact .int _
  | .str _, _, h => by cases h; exact .str _
  | .list ds, _, h => by
    cases h with
    | lst a b => exact .lst (SqL.of a) (RpA.dp ds _ b)
  | .tuple ds, _, h => by
    cases h with
    | tup a b => exact .tup (SqT.of a) (RpA.dp ds _ b)
  | .dict _, _, h => by cases h
theorem RpA.dp {K : PySem.W.Frag} {H : Hp} : ∀ (ds : List PyData) (vs : List V), RpA H vs ds → DpAll K H vs ds
  | [], _, h => by cases h; exact .nil
  | d :: ds, _, h => by
    cases h with
    | cons a b => exact .cons (Rp.dp d _ a) (RpA.dp ds _ b)
end
theorem Rp.up {H H' : Hp} {d : PyData} {v : V} (h : Rp H v d) (e : Same H H') : Rp H' v d := Rp.mono e d v h
theorem RpA.up {H H' : Hp} {ds : List PyData} {vs : List V} (h : RpA H vs ds) (e : Same H H') : RpA H' vs ds := RpA.mono e ds vs h
theorem RpA.length {H : Hp} : ∀ {vs : List V} {ds : List PyData}, RpA H vs ds → vs.length = ds.length
  | _, _, .nil => rfl
  | _, _, .cons _ t => congrArg Nat.succ (RpA.length t)
theorem RpA.get {H : Hp} : ∀ {vs : List V} {ds : List PyData} {i : Nat} {d : PyData}, RpA H vs ds → ds[i]? = some d → ∃ v, vs[i]? = some v ∧ Rp H v d
  | _, _, i, _, .nil, e => by simp at e
  | _, _, 0, _, .cons r _, e => by simp at e; subst e; exact ⟨_, rfl, r⟩
  | _, _, i + 1, d, .cons _ t, e => by
    obtain ⟨u, h1, h2⟩ := RpA.get (i := i) (d := d) t (by simpa using e)
    exact ⟨u, by simpa using h1, h2⟩
theorem RpA.append {H : Hp} : ∀ {vs ws : List V} {ds es : List PyData}, RpA H vs ds → RpA H ws es → RpA H (vs ++ ws) (ds ++ es)
  | _, _, _, _, .nil, s => s
  | _, _, _, _, .cons r t, s => .cons r (RpA.append t s)
theorem RpA.take {H : Hp} : ∀ {vs : List V} {ds : List PyData} (n : Nat), RpA H vs ds → RpA H (vs.take n) (ds.take n)
  | _, _, 0, _ => .nil
  | _, _, _ + 1, .nil => .nil
  | _, _, n + 1, .cons r t => .cons r (RpA.take n t)
theorem RpA.drop {H : Hp} : ∀ {vs : List V} {ds : List PyData} (n : Nat), RpA H vs ds → RpA H (vs.drop n) (ds.drop n)
  | _, _, 0, r => r
  | _, _, _ + 1, .nil => .nil
  | _, _, n + 1, .cons _ t => RpA.drop n t
theorem RpA.set {H : Hp} {v : V} {d : PyData} (r : Rp H v d) : ∀ {vs : List V} {ds : List PyData} (i : Nat), RpA H vs ds → RpA H (vs.set i v) (ds.set i d)
  | _, _, _, .nil => .nil
  | _, _, 0, .cons _ t => .cons r t
  | _, _, i + 1, .cons q t => .cons q (RpA.set r i t)
theorem RpA.ints {H : Hp} : ∀ {vs : List V} {ns : List Int}, RpA H vs (ns.map PyData.int) → vs = ns.map V.int
  | _, [], .nil => rfl
  | _, _ :: _, .cons r t => by
    cases r
    rw [RpA.ints t]
    rfl
theorem RpA.ofInts {H : Hp} : ∀ (ns : List Int), RpA H (ns.map V.int) (ns.map PyData.int)
  | [] => .nil
  | n :: ns => .cons (.int n) (RpA.ofInts ns)
theorem RpA.bools {H : Hp} : ∀ {vs : List V} {ns : List Bool}, RpA H vs (ns.map PyData.bool) → vs = ns.map V.bl
  | _, [], .nil => rfl
  | _, _ :: _, .cons r t => by
    cases r
    rw [RpA.bools t]
    rfl
theorem RpA.strs {H : Hp} : ∀ {vs : List V} {ns : List Str}, RpA H vs (ns.map PyData.str) → vs = ns.map V.str
  | _, [], .nil => rfl
  | _, _ :: _, .cons r t => by
    cases r
    rw [RpA.strs t]
    rfl
theorem Rp.listOf {H : Hp} {v : V} {ds : List PyData} (h : Rp H v (.list ds)) : ∃ a xs, v = .ref a ∧ H a = some (.lst xs) ∧ RpA H xs ds := by
  cases h with
  | lst a b => exact ⟨_, _, rfl, a, b⟩
theorem Rp.tupOf {H : Hp} {v : V} {ds : List PyData} (h : Rp H v (.tuple ds)) : ∃ a xs, v = .ref a ∧ H a = some (.tup xs) ∧ RpA H xs ds := by
  cases h with
  | tup a b => exact ⟨_, _, rfl, a, b⟩

/-! ### heaps that grow: M what never changes, H all -/
structure Grow (M H M' H' : Hp) : Prop where
  m : Same M M'
  h : Same H H'
  s : Same M' H'
  ap : ∀ a o, M a = none → H a = some o → M' a = none
theorem Grow.refl {M H : Hp} (s : Same M H) : Grow M H M H := ⟨Same.refl _, Same.refl _, s, fun _ _ h _ => h⟩
theorem Grow.trans {M H M1 H1 M2 H2 : Hp} (a : Grow M H M1 H1) (b : Grow M1 H1 M2 H2) : Grow M H M2 H2 :=
  ⟨a.m.trans b.m, a.h.trans b.h, b.s, fun x o h1 h2 => b.ap x o (a.ap x o h1 h2) (a.h x o h2)⟩
theorem same_upd {H : Hp} {p : Addr} {o : HO} (h : H p = none) : Same H (upd H p o) := fun a u e => by
  rw [upd_ne (ne_of_none e h)]
  exact e
theorem none_of_same {M H : Hp} (s : Same M H) {p : Addr} (h : H p = none) : M p = none := by
  cases e : M p with
  | none => rfl
  | some o =>
    rw [s p o e] at h
    cases h
theorem same_upd2 {M H : Hp} {p : Addr} {o : HO} (s : Same M H) (h : H p = none) : Same (upd M p o) (upd H p o) := fun a u e => by
  by_cases ha : a = p
  · subst ha
    rw [upd_same] at e ⊢
    exact e
  · rw [upd_ne ha] at e ⊢
    exact s a u e
/-- a new object that never changes -/
theorem Grow.new {M H M' H' : Hp} {p : Addr} {o : HO} (g : Grow M H M' H') (h : H' p = none) : Grow M H (upd M' p o) (upd H' p o) :=
  ⟨g.m.trans (same_upd (none_of_same g.s h)), g.h.trans (same_upd h), same_upd2 g.s h, fun a u h1 h2 => by
    have e : a ≠ p := ne_of_none (g.h a u h2) h
    rw [upd_ne e]
    exact g.ap a u h1 h2⟩
/-- a new object that may change -/
theorem Grow.newOwn {M H M' H' : Hp} {p : Addr} {o : HO} (g : Grow M H M' H') (h : H' p = none) : Grow M H M' (upd H' p o) :=
  ⟨g.m, g.h.trans (same_upd h), fun a u e => by
    rw [upd_ne (ne_of_none (g.s a u e) h)]
    exact g.s a u e, g.ap⟩
/-- an object of one's own changes -/
theorem Grow.mut {M H M' H' : Hp} {p : Addr} {o : HO} (g : Grow M H M' H') (h : H p = none) (hm : M' p = none) : Grow M H M' (upd H' p o) :=
  ⟨g.m, fun a u e => by
    rw [upd_ne (ne_of_none e h)]
    exact g.h a u e, fun a u e => by
    rw [upd_ne (ne_of_none e hm)]
    exact g.s a u e, g.ap⟩
/-- an object of one's own comes to rest -/
theorem Grow.rest {M H M' H' : Hp} {p : Addr} {o : HO} (g : Grow M H M' H') (h : H p = none) (hm : M' p = none) (hp : H' p = some o) : Grow M H (upd M' p o) H' :=
  ⟨g.m.trans (same_upd hm), g.h, fun a u e => by
    by_cases ha : a = p
    · subst ha
      rw [upd_same] at e
      rw [hp, e]
    · rw [upd_ne ha] at e
      exact g.s a u e, fun a u h1 h2 => by
    have e : a ≠ p := ne_of_none h2 h
    rw [upd_ne e]
    exact g.ap a u h1 h2⟩

/-! ### slots -/
inductive Sl where
  | no
  | dat (d : PyData)
  | own (ds : List PyData)
  | frz (v : V) (m : Hp)
abbrev Ro := List Sl
/-- M0, H0: the entry's heaps -/
structure Rep (M0 H0 : Hp) (r : Ro) (σ : L2.St) (M H : Hp) : Prop where
  g : Grow M0 H0 M H
  len : σ.length = r.length
  dat : ∀ (i : Nat) d, r[i]? = some (.dat d) → ∃ v, σ[i]? = some (some v) ∧ Rp M v d
  own : ∀ (i : Nat) ds, r[i]? = some (.own ds) → ∃ a vs, σ[i]? = some (some (.ref a)) ∧ H0 a = none ∧ M a = none ∧ H a = some (.lst vs) ∧ RpA M vs ds
  ap : ∀ (i j : Nat) ds es a, r[i]? = some (.own ds) → r[j]? = some (.own es) → σ[i]? = some (some (.ref a)) → σ[j]? = some (some (.ref a)) → i = j
  frz : ∀ (i : Nat) v m, r[i]? = some (.frz v m) → σ[i]? = some (some v) ∧ Same m M
theorem frz_set {r : Ro} {σ : L2.St} {M : Hp} (R : ∀ (i : Nat) v m, r[i]? = some (.frz v m) → σ[i]? = some (some v) ∧ Same m M) {j : Nat} {s : Sl} {o : Option V} (hs : ∀ v m, s ≠ .frz v m) : ∀ (i : Nat) v m, (r.set j s)[i]? = some (.frz v m) → (σ.set j o)[i]? = some (some v) ∧ Same m M := fun i v m e => by
  by_cases hij : j = i
  · subst hij
    by_cases hl : j < r.length
    · rw [List.getElem?_set_self hl] at e
      exact absurd (Option.some.inj e) (hs v m)
    · rw [List.getElem?_eq_none (by rw [List.length_set]; omega)] at e
      cases e
  · rw [List.getElem?_set_ne hij] at e
    rw [List.getElem?_set_ne hij]
    exact R i v m e
theorem frz_set0 {r : Ro} {σ : L2.St} {M : Hp} (R : ∀ (i : Nat) v m, r[i]? = some (.frz v m) → σ[i]? = some (some v) ∧ Same m M) {j : Nat} {s : Sl} (hs : ∀ v m, s ≠ .frz v m) : ∀ (i : Nat) v m, (r.set j s)[i]? = some (.frz v m) → σ[i]? = some (some v) ∧ Same m M := fun i v m e => by
  by_cases hij : j = i
  · subst hij
    by_cases hl : j < r.length
    · rw [List.getElem?_set_self hl] at e
      exact absurd (Option.some.inj e) (hs v m)
    · rw [List.getElem?_eq_none (by rw [List.length_set]; omega)] at e
      cases e
  · rw [List.getElem?_set_ne hij] at e
    exact R i v m e
theorem Rep.grow {M0 H0 M H M' H' : Hp} {r : Ro} {σ : L2.St} (R : Rep M0 H0 r σ M H) (g : Grow M H M' H') : Rep M0 H0 r σ M' H' :=
  ⟨R.g.trans g, R.len, fun i d e => by
    obtain ⟨v, h1, h2⟩ := R.dat i d e
    exact ⟨v, h1, h2.up g.m⟩, fun i ds e => by
    obtain ⟨a, vs, h1, h2, h3, h4, h5⟩ := R.own i ds e
    exact ⟨a, vs, h1, h2, g.ap a _ h3 h4, g.h a _ h4, h5.up g.m⟩, R.ap, fun i v m e => ⟨(R.frz i v m e).1, (R.frz i v m e).2.trans g.m⟩⟩
/-- slot j holds data now -/
theorem Rep.put {M0 H0 M H : Hp} {r : Ro} {σ : L2.St} (R : Rep M0 H0 r σ M H) {j : Nat} {v : V} {d : PyData} (h : Rp M v d) : Rep M0 H0 (r.set j (.dat d)) (σ.set j (some v)) M H := by
  refine ⟨R.g, by rw [List.length_set, List.length_set, R.len], fun i e hi => ?_, fun i ds hi => ?_, fun i k ds es a h1 h2 h3 h4 => ?_, frz_set R.frz fun _ _ z => Sl.noConfusion z⟩
  · by_cases hij : j = i
    · subst hij
      by_cases hl : j < r.length
      · rw [List.getElem?_set_self hl] at hi
        cases hi
        exact ⟨v, List.getElem?_set_self (by rw [R.len]; exact hl), h⟩
      · rw [List.getElem?_eq_none (by rw [List.length_set]; omega)] at hi
        cases hi
    · rw [List.getElem?_set_ne hij] at hi
      obtain ⟨w, h1, h2⟩ := R.dat i e hi
      exact ⟨w, by rw [List.getElem?_set_ne hij]; exact h1, h2⟩
  · by_cases hij : j = i
    · subst hij
      by_cases hl : j < r.length
      · rw [List.getElem?_set_self hl] at hi
        cases hi
      · rw [List.getElem?_eq_none (by rw [List.length_set]; omega)] at hi
        cases hi
    · rw [List.getElem?_set_ne hij] at hi
      obtain ⟨a, vs, h1, h2⟩ := R.own i ds hi
      exact ⟨a, vs, by rw [List.getElem?_set_ne hij]; exact h1, h2⟩
  · have f : ∀ (i : Nat) ds, (r.set j (.dat d))[i]? = some (.own ds) → j ≠ i ∧ r[i]? = some (.own ds) := fun i ds hi => by
      by_cases hij : j = i
      · subst hij
        by_cases hl : j < r.length
        · rw [List.getElem?_set_self hl] at hi
          cases hi
        · rw [List.getElem?_eq_none (by rw [List.length_set]; omega)] at hi
          cases hi
      · rw [List.getElem?_set_ne hij] at hi
        exact ⟨hij, hi⟩
    obtain ⟨n1, e1⟩ := f i ds h1
    obtain ⟨n2, e2⟩ := f k es h2
    rw [List.getElem?_set_ne n1] at h3
    rw [List.getElem?_set_ne n2] at h4
    exact R.ap i k ds es a e1 e2 h3 h4
/-- slot j is forgotten -/
theorem Rep.drop {M0 H0 M H : Hp} {r : Ro} {σ : L2.St} (R : Rep M0 H0 r σ M H) {j : Nat} {o : Option V} : Rep M0 H0 (r.set j .no) (σ.set j o) M H := by
  have f : ∀ (i : Nat) s, (r.set j .no)[i]? = some s → s ≠ .no → j ≠ i ∧ r[i]? = some s := fun i s hi hn => by
    by_cases hij : j = i
    · subst hij
      by_cases hl : j < r.length
      · rw [List.getElem?_set_self hl] at hi
        cases hi
        exact absurd rfl hn
      · rw [List.getElem?_eq_none (by rw [List.length_set]; omega)] at hi
        cases hi
    · rw [List.getElem?_set_ne hij] at hi
      exact ⟨hij, hi⟩
  refine ⟨R.g, by rw [List.length_set, List.length_set, R.len], fun i e hi => ?_, fun i ds hi => ?_, fun i k ds es a h1 h2 h3 h4 => ?_, frz_set R.frz fun _ _ z => Sl.noConfusion z⟩
  · obtain ⟨n, q⟩ := f i _ hi (fun z => by cases z)
    obtain ⟨w, h1, h2⟩ := R.dat i e q
    exact ⟨w, by rw [List.getElem?_set_ne n]; exact h1, h2⟩
  · obtain ⟨n, q⟩ := f i _ hi (fun z => by cases z)
    obtain ⟨a, vs, h1, h2⟩ := R.own i ds q
    exact ⟨a, vs, by rw [List.getElem?_set_ne n]; exact h1, h2⟩
  · obtain ⟨n1, e1⟩ := f i _ h1 (fun z => by cases z)
    obtain ⟨n2, e2⟩ := f k _ h2 (fun z => by cases z)
    rw [List.getElem?_set_ne n1] at h3
    rw [List.getElem?_set_ne n2] at h4
    exact R.ap i k ds es a e1 e2 h3 h4
/-- slot j holds a new list of one's own -/
theorem Rep.putOwn {M0 H0 M H : Hp} {r : Ro} {σ : L2.St} (R : Rep M0 H0 r σ M H) {j : Nat} {a : Addr} {vs : List V} {ds : List PyData} (h0 : H0 a = none) (hm : M a = none) (hh : H a = some (.lst vs)) (h : RpA M vs ds)
    (hn : ∀ (i : Nat) es, i ≠ j → r[i]? = some (.own es) → σ[i]? ≠ some (some (.ref a))) : Rep M0 H0 (r.set j (.own ds)) (σ.set j (some (.ref a))) M H := by
  have f : ∀ (i : Nat) s, j ≠ i → (r.set j (.own ds))[i]? = some s → r[i]? = some s := fun i s hij hi => by
    rw [List.getElem?_set_ne hij] at hi
    exact hi
  refine ⟨R.g, by rw [List.length_set, List.length_set, R.len], fun i e hi => ?_, fun i es hi => ?_, fun i k es es' b h1 h2 h3 h4 => ?_, frz_set R.frz fun _ _ z => Sl.noConfusion z⟩
  · by_cases hij : j = i
    · subst hij
      by_cases hl : j < r.length
      · rw [List.getElem?_set_self hl] at hi
        cases hi
      · rw [List.getElem?_eq_none (by rw [List.length_set]; omega)] at hi
        cases hi
    · obtain ⟨w, h1, h2⟩ := R.dat i e (f i _ hij hi)
      exact ⟨w, by rw [List.getElem?_set_ne hij]; exact h1, h2⟩
  · by_cases hij : j = i
    · subst hij
      by_cases hl : j < r.length
      · rw [List.getElem?_set_self hl] at hi
        cases hi
        exact ⟨a, vs, List.getElem?_set_self (by rw [R.len]; exact hl), h0, hm, hh, h⟩
      · rw [List.getElem?_eq_none (by rw [List.length_set]; omega)] at hi
        cases hi
    · obtain ⟨b, ws, h1, h2⟩ := R.own i es (f i _ hij hi)
      exact ⟨b, ws, by rw [List.getElem?_set_ne hij]; exact h1, h2⟩
  · by_cases hi : j = i
    · by_cases hk : j = k
      · omega
      · exfalso
        subst hi
        have hl : j < r.length := by
          by_cases hl : j < r.length
          · exact hl
          · rw [List.getElem?_eq_none (by rw [List.length_set]; omega)] at h1
            cases h1
        rw [List.getElem?_set_self (by rw [R.len]; exact hl)] at h3
        cases h3
        rw [List.getElem?_set_ne hk] at h4
        exact hn k es' (fun z => hk z.symm) (f k _ hk h2) h4
    · by_cases hk : j = k
      · exfalso
        subst hk
        have hl : j < r.length := by
          by_cases hl : j < r.length
          · exact hl
          · rw [List.getElem?_eq_none (by rw [List.length_set]; omega)] at h2
            cases h2
        rw [List.getElem?_set_self (by rw [R.len]; exact hl)] at h4
        cases h4
        rw [List.getElem?_set_ne hi] at h3
        exact hn i es (fun z => hi z.symm) (f i _ hi h1) h3
      · rw [List.getElem?_set_ne hi] at h3
        rw [List.getElem?_set_ne hk] at h4
        exact R.ap i k es es' b (f i _ hi h1) (f k _ hk h2) h3 h4
/-- the own list of slot j changes -/
theorem Rep.mut {M0 H0 M H : Hp} {r : Ro} {σ : L2.St} (R : Rep M0 H0 r σ M H) {j : Nat} {a : Addr} {ws : List V} {ds es : List PyData} (hj : r[j]? = some (.own ds)) (ha : σ[j]? = some (some (.ref a))) (h : RpA M ws es) :
    Rep M0 H0 (r.set j (.own es)) σ M (upd H a (.lst ws)) := by
  obtain ⟨b, vs, h1, h2, h3, h4, h5⟩ := R.own j ds hj
  rw [ha] at h1
  cases h1
  have hl : j < r.length := (List.getElem?_eq_some_iff.mp hj).1
  refine ⟨R.g.mut h2 h3, by rw [List.length_set, R.len], fun i e hi => ?_, fun i fs hi => ?_, fun i k fs fs' b h6 h7 h8 h9 => ?_, frz_set0 R.frz fun _ _ z => Sl.noConfusion z⟩
  · by_cases hij : j = i
    · subst hij
      rw [List.getElem?_set_self hl] at hi
      cases hi
    · rw [List.getElem?_set_ne hij] at hi
      exact R.dat i e hi
  · by_cases hij : j = i
    · subst hij
      rw [List.getElem?_set_self hl] at hi
      cases hi
      exact ⟨a, ws, ha, h2, h3, upd_same, h⟩
    · rw [List.getElem?_set_ne hij] at hi
      obtain ⟨b, us, k1, k2, k3, k4, k5⟩ := R.own i fs hi
      have hb : b ≠ a := fun z => by
        subst z
        exact hij (R.ap j i ds fs b hj hi ha k1)
      exact ⟨b, us, k1, k2, k3, by rw [upd_ne hb]; exact k4, k5⟩
  · have f : ∀ (i : Nat) fs, (r.set j (.own es))[i]? = some (.own fs) → ∃ gs, r[i]? = some (.own gs) := fun i fs hi => by
      by_cases hij : j = i
      · subst hij
        exact ⟨ds, hj⟩
      · rw [List.getElem?_set_ne hij] at hi
        exact ⟨fs, hi⟩
    obtain ⟨g1, e1⟩ := f i fs h6
    obtain ⟨g2, e2⟩ := f k fs' h7
    exact R.ap i k g1 g2 b e1 e2 h8 h9
/-- the own list of slot j comes to rest -/
theorem Rep.rest {M0 H0 M H : Hp} {r : Ro} {σ : L2.St} (R : Rep M0 H0 r σ M H) {j : Nat} {ds : List PyData} (hj : r[j]? = some (.own ds)) : ∃ M', Grow M0 H0 M' H ∧ Same M M' ∧ Rep M0 H0 (r.set j (.dat (.list ds))) σ M' H := by
  obtain ⟨a, vs, h1, h2, h3, h4, h5⟩ := R.own j ds hj
  have g := R.g.rest h2 h3 h4
  have sm : Same M (upd M a (.lst vs)) := same_upd h3
  have hl : j < r.length := (List.getElem?_eq_some_iff.mp hj).1
  refine ⟨_, g, sm, g, by rw [List.length_set, R.len], fun i e hi => ?_, fun i fs hi => ?_, fun i k fs fs' b h6 h7 h8 h9 => ?_, frz_set0 (fun i v m e => ⟨(R.frz i v m e).1, (R.frz i v m e).2.trans sm⟩) fun _ _ z => Sl.noConfusion z⟩
  · by_cases hij : j = i
    · subst hij
      rw [List.getElem?_set_self hl] at hi
      cases hi
      exact ⟨.ref a, h1, .lst upd_same (h5.up sm)⟩
    · rw [List.getElem?_set_ne hij] at hi
      obtain ⟨v, k1, k2⟩ := R.dat i e hi
      exact ⟨v, k1, k2.up sm⟩
  · by_cases hij : j = i
    · subst hij
      rw [List.getElem?_set_self hl] at hi
      cases hi
    · rw [List.getElem?_set_ne hij] at hi
      obtain ⟨b, us, k1, k2, k3, k4, k5⟩ := R.own i fs hi
      have hb : b ≠ a := fun z => by
        subst z
        exact hij (R.ap j i ds fs b hj hi h1 k1)
      exact ⟨b, us, k1, k2, by rw [upd_ne hb]; exact k3, k4, k5.up sm⟩
  · have f : ∀ (i : Nat) fs, (r.set j (.dat (.list ds)))[i]? = some (.own fs) → r[i]? = some (.own fs) := fun i fs hi => by
      by_cases hij : j = i
      · subst hij
        rw [List.getElem?_set_self hl] at hi
        cases hi
      · rw [List.getElem?_set_ne hij] at hi
        exact hi
    exact R.ap i k fs fs' b (f i fs h6) (f k fs' h7) h8 h9

/-! ### what an expression gives -/
def EvD (te : TE) (r : Ro) (d : PyData) : Prop := ∀ (M0 H0 : Hp) (σ : L2.St) (M H : Hp), Rep M0 H0 r σ M H → ∀ Q : VK, (∀ v M' H', Grow M H M' H' → Rp M' v d → Q v H') → te σ H Q
/-- a new list of one's own -/
def EvO (te : TE) (r : Ro) (ds : List PyData) : Prop := ∀ (M0 H0 : Hp) (σ : L2.St) (M H : Hp), Rep M0 H0 r σ M H → ∀ Q : VK,
  (∀ a vs M' H', Grow M H M' H' → H a = none → M' a = none → H' a = some (.lst vs) → RpA M' vs ds → Q (.ref a) H') → te σ H Q
def EvA (ta : TA) (r : Ro) (ds : List PyData) : Prop := ∀ (M0 H0 : Hp) (σ : L2.St) (M H : Hp), Rep M0 H0 r σ M H → ∀ Q : List V → Hp → Prop, (∀ vs M' H', Grow M H M' H' → RpA M' vs ds → Q vs H') → ta σ H Q
def EvB (tt : TT) (r : Ro) (b : Bool) : Prop := ∀ (M0 H0 : Hp) (σ : L2.St) (M H : Hp), Rep M0 H0 r σ M H → ∀ Q : Bool → Hp → Prop, (∀ M' H', Grow M H M' H' → Q b H') → tt σ H Q
def EvP (to : TO) (r : Ro) (o : Option Int) : Prop := ∀ (M0 H0 : Hp) (σ : L2.St) (M H : Hp), Rep M0 H0 r σ M H → ∀ Q : Option Int → Hp → Prop, (∀ M' H', Grow M H M' H' → Q o H') → to σ H Q
/-- an operation on values -/
def OpD (r : R2) (x y z : PyData) : Prop := ∀ (M H : Hp) (v w : V), Same M H → Rp M v x → Rp M w y → ∀ Q : VK, (∀ u M' H', Grow M H M' H' → Rp M' u z → Q u H') → r v w H Q
/-- an operation that gives a new list -/
def OpO (r : R2) (x y : PyData) (zs : List PyData) : Prop := ∀ (M H : Hp) (v w : V), Same M H → Rp M v x → Rp M w y → ∀ Q : VK,
  (∀ a vs M' H', Grow M H M' H' → H a = none → M' a = none → H' a = some (.lst vs) → RpA M' vs zs → Q (.ref a) H') → r v w H Q
def CbD (r : List V → Hp → VK → Prop) (xs : List PyData) (z : PyData) : Prop := ∀ (M H : Hp) (vs : List V), Same M H → RpA M vs xs → ∀ Q : VK, (∀ u M' H', Grow M H M' H' → Rp M' u z → Q u H') → r vs H Q
def CbO (r : List V → Hp → VK → Prop) (xs : List PyData) (zs : List PyData) : Prop := ∀ (M H : Hp) (vs : List V), Same M H → RpA M vs xs → ∀ Q : VK,
  (∀ a ws M' H', Grow M H M' H' → H a = none → M' a = none → H' a = some (.lst ws) → RpA M' ws zs → Q (.ref a) H') → r vs H Q
section
variable {r : Ro} {te ta tb : TE} {tA : TA} {x y z d : PyData} {ds es : List PyData} {t u : TT} {rr : R2}
theorem ev_var {i : Nat} (h : r[i]? = some (.dat d)) : EvD (tVar i) r d := fun M0 H0 σ M H R Q q => by
  obtain ⟨v, h1, h2⟩ := R.dat i d h
  exact ⟨v, h1, q v M H (Grow.refl R.g.s) h2⟩
theorem ev_int {i : Int} : EvD (tC (.int i)) r (.int i) := fun M0 H0 σ M H R Q q => q _ M H (Grow.refl R.g.s) (.int i)
theorem ev_str {i : Str} : EvD (tC (.str i)) r (.str i) := fun M0 H0 σ M H R Q q => q _ M H (Grow.refl R.g.s) (.str i)
theorem ev_bl {i : Bool} : EvD (tC (.bl i)) r (.bool i) := fun M0 H0 σ M H R Q q => q _ M H (Grow.refl R.g.s) (.bl i)
theorem ev_non : EvD (tC .non) r .none := fun M0 H0 σ M H R Q q => q _ M H (Grow.refl R.g.s) .non
theorem ev_op (ha : EvD ta r x) (hb : EvD tb r y) (ho : OpD rr x y z) : EvD (tOp rr ta tb) r z := fun M0 H0 σ M H R Q q =>
  ha M0 H0 σ M H R _ fun v M1 H1 g1 r1 => hb M0 H0 σ M1 H1 (R.grow g1) _ fun w M2 H2 g2 r2 => ho M2 H2 v w g2.s (r1.up g2.m) r2 Q fun u M3 H3 g3 r3 => q u M3 H3 ((g1.trans g2).trans g3) r3
theorem eo_op {zs : List PyData} (ha : EvD ta r x) (hb : EvD tb r y) (ho : OpO rr x y zs) : EvO (tOp rr ta tb) r zs := fun M0 H0 σ M H R Q q =>
  ha M0 H0 σ M H R _ fun v M1 H1 g1 r1 => hb M0 H0 σ M1 H1 (R.grow g1) _ fun w M2 H2 g2 r2 => ho M2 H2 v w g2.s (r1.up g2.m) r2 Q fun a vs M3 H3 g3 n3 m3 h3 r3 =>
    q a vs M3 H3 ((g1.trans g2).trans g3) (Same.free (g1.trans g2).h n3) m3 h3 r3
theorem ev_is (h : EvD te r x) (e : x = y) : EvD te r y := by
  rw [← e]
  exact h
theorem eo_is (h : EvO te r ds) (e : ds = es) : EvO te r es := by
  rw [← e]
  exact h
theorem eb_is {a b : Bool} (h : EvB t r a) (e : a = b) : EvB t r b := by
  rw [← e]
  exact h
/-- a new list is data too -/
theorem ev_rest (h : EvO te r ds) : EvD te r (.list ds) := fun M0 H0 σ M H R Q q => h M0 H0 σ M H R Q fun a vs M1 H1 g1 n1 m1 h1 r1 =>
  q (.ref a) _ H1 (g1.rest n1 m1 h1) (.lst upd_same (r1.up (same_upd m1)))
theorem ea_nil : EvA tNil r [] := fun M0 H0 σ M H R Q q => q [] M H (Grow.refl R.g.s) .nil
theorem ea_cons (ha : EvD ta r x) (hr : EvA tA r ds) : EvA (tCons ta tA) r (x :: ds) := fun M0 H0 σ M H R Q q =>
  ha M0 H0 σ M H R _ fun v M1 H1 g1 r1 => hr M0 H0 σ M1 H1 (R.grow g1) _ fun vs M2 H2 g2 r2 => q (v :: vs) M2 H2 (g1.trans g2) (.cons (r1.up g2.m) r2)
theorem ev_tup (h : EvA tA r ds) (hl : ds.length ≤ 100000) : EvD (tTup tA) r (.tuple ds) := fun M0 H0 σ M H R Q q =>
  h M0 H0 σ M H R _ fun vs M1 H1 g1 r1 => ⟨by rw [r1.length]; exact Nat.le_trans hl (by decide), fun p hp => q (.ref p) _ _ (g1.new hp) (.tup upd_same (r1.up (same_upd (none_of_same g1.s hp))))⟩
theorem eo_lst (h : EvA tA r ds) (hl : ds.length ≤ 100000) : EvO (tLst tA) r ds := fun M0 H0 σ M H R Q q =>
  h M0 H0 σ M H R _ fun vs M1 H1 g1 r1 => ⟨by rw [r1.length]; exact Nat.le_trans hl (by decide), fun p hp => q p vs _ _ (g1.newOwn hp) (Same.free g1.h hp) (none_of_same g1.s hp) upd_same r1⟩
theorem ev_cb {rc : List V → Hp → VK → Prop} (h : EvA tA r ds) (hc : CbD rc ds z) : EvD (tCB rc tA) r z := fun M0 H0 σ M H R Q q =>
  h M0 H0 σ M H R _ fun vs M1 H1 g1 r1 => hc M1 H1 vs g1.s r1 Q fun u M2 H2 g2 r2 => q u M2 H2 (g1.trans g2) r2
theorem eo_cb {rc : List V → Hp → VK → Prop} {zs : List PyData} (h : EvA tA r ds) (hc : CbO rc ds zs) : EvO (tCB rc tA) r zs := fun M0 H0 σ M H R Q q =>
  h M0 H0 σ M H R _ fun vs M1 H1 g1 r1 => hc M1 H1 vs g1.s r1 Q fun a ws M2 H2 g2 n2 m2 h2 r2 => q a ws M2 H2 (g1.trans g2) (Same.free g1.h n2) m2 h2 r2
/-! operations -/
theorem od_I0 {g : Int → Int → Int} {i j : Int} : OpD (rI0 fun i j => .int (g i j)) (.int i) (.int j) (.int (g i j)) := fun M H v w s rv rw' Q q => by
  cases rv
  cases rw'
  exact ⟨i, j, rfl, rfl, q _ M H (Grow.refl s) (.int _)⟩
theorem od_B0 {g : Int → Int → Bool} {i j : Int} : OpD (rI0 fun i j => .bl (g i j)) (.int i) (.int j) (.bool (g i j)) := fun M H v w s rv rw' Q q => by
  cases rv
  cases rw'
  exact ⟨i, j, rfl, rfl, q _ M H (Grow.refl s) (.bl _)⟩
theorem od_I {C : Int → Int → Prop} {g : Int → Int → Int} {i j : Int} (hc : C i j) : OpD (rI C fun i j => .int (g i j)) (.int i) (.int j) (.int (g i j)) := fun M H v w s rv rw' Q q => by
  cases rv
  cases rw'
  exact ⟨i, j, rfl, rfl, hc, q _ M H (Grow.refl s) (.int _)⟩
theorem ev_neg {i : Int} (h : EvD ta r (.int i)) : EvD (tUn (rU fun i => .int (-i)) ta) r (.int (-i)) := fun M0 H0 σ M H R Q q => h M0 H0 σ M H R _ fun v M1 H1 g1 r1 => by
  cases r1
  exact ⟨i, rfl, q _ M1 H1 g1 (.int _)⟩
/-- == and != of data -/
def Shp (d : PyData) : Prop := SeqAt.shaped d = true
theorem od_eqD {K : PySem.W.Frag} (hx : Shp x) (hy : Shp y) : OpD (rEqD K) x y (.bool (PyData.eqv x y)) := fun M H v w s rv rw' Q q =>
  ⟨x, y, Rp.dp x v (rv.up s), Rp.dp y w (rw'.up s), hx, hy, q _ M H (Grow.refl s) (.bl _)⟩
theorem od_neD {K : PySem.W.Frag} (hx : Shp x) (hy : Shp y) : OpD (rNeD K) x y (.bool (!PyData.eqv x y)) := fun M H v w s rv rw' Q q =>
  ⟨x, y, Rp.dp x v (rv.up s), Rp.dp y w (rw'.up s), hx, hy, q _ M H (Grow.refl s) (.bl _)⟩
theorem od_inD {K : PySem.W.Frag} (hx : Shp x) (hy : Shp (.list ds)) : OpD (rInD K) x (.list ds) (.bool (ds.any fun z => PyData.eqv z x)) := fun M H v w s rv rw' Q q =>
  ⟨x, ds, Rp.dp x v (rv.up s), Rp.dp _ w (rw'.up s), hx, hy, q _ M H (Grow.refl s) (.bl _)⟩
theorem od_notInD {K : PySem.W.Frag} (hx : Shp x) (hy : Shp (.list ds)) : OpD (rNotInD K) x (.list ds) (.bool (!ds.any fun z => PyData.eqv z x)) := fun M H v w s rv rw' Q q =>
  ⟨x, ds, Rp.dp x v (rv.up s), Rp.dp _ w (rw'.up s), hx, hy, q _ M H (Grow.refl s) (.bl _)⟩
def rEqI : R2 := rEq
/-- == of two ints, by scalars -/
theorem od_eqI {i j : Int} : OpD rEq (.int i) (.int j) (.bool (decide (i = j))) := fun M H v w s rv rw' Q q => by
  cases rv
  cases rw'
  refine ⟨rfl, ?_⟩
  have e : decide (V.int i = V.int j) = decide (i = j) := by
    rw [Bool.eq_iff_iff]
    simp
  rw [e]
  exact q _ M H (Grow.refl s) (.bl _)
theorem od_neI {i j : Int} : OpD rNe (.int i) (.int j) (.bool (!decide (i = j))) := fun M H v w s rv rw' Q q => by
  cases rv
  cases rw'
  refine ⟨rfl, ?_⟩
  have e : decide (V.int i = V.int j) = decide (i = j) := by
    rw [Bool.eq_iff_iff]
    simp
  rw [e]
  exact q _ M H (Grow.refl s) (.bl _)
def rIsN : R2 := fun x y H Q => y = .non ∧ Q (.bl (decide (x = .non))) H
def rNotN : R2 := fun x y H Q => y = .non ∧ Q (.bl (!decide (x = .non))) H
def isNone : PyData → Bool
  | .none => true
  | _ => false
theorem isNone_of {M : Hp} {v : V} {x : PyData} (h : Rp M v x) : decide (v = .non) = isNone x := by
  cases h <;> simp [isNone]
theorem od_isN : OpD rIsN x .none (.bool (isNone x)) := fun M H v w s rv rw' Q q => by
  cases rw'
  refine ⟨rfl, ?_⟩
  rw [isNone_of rv]
  exact q _ M H (Grow.refl s) (.bl _)
theorem od_notN : OpD rNotN x .none (.bool (!isNone x)) := fun M H v w s rv rw' Q q => by
  cases rw'
  refine ⟨rfl, ?_⟩
  rw [isNone_of rv]
  exact q _ M H (Grow.refl s) (.bl _)
def rAddS : R2 := fun x y H Q => ∃ i j, x = .str i ∧ y = .str j ∧ i.length + j.length ≤ sizeLine ∧ Q (.str (i ++ j)) H
theorem od_addS {a b : Str} (h : a.length + b.length ≤ 16000000) : OpD rAddS (.str a) (.str b) (.str (a ++ b)) := fun M H v w s rv rw' Q q => by
  cases rv
  cases rw'
  exact ⟨a, b, rfl, rfl, Nat.le_trans h (by decide), q _ M H (Grow.refl s) (.str _)⟩
theorem oo_cat (h : ds.length + es.length ≤ 16000000) : OpO rCat (.list ds) (.list es) (ds ++ es) := fun M H v w s rv rw' Q q => by
  obtain ⟨a, xs, rfl, ha, ra⟩ := rv.listOf
  obtain ⟨b, ys, rfl, hb, rb⟩ := rw'.listOf
  refine ⟨a, b, xs, ys, rfl, rfl, s _ _ ha, s _ _ hb, ?_, fun p hp => q p _ M _ ((Grow.refl s).newOwn hp) hp (none_of_same s hp) upd_same (ra.append rb)⟩
  rw [ra.length, rb.length]
  exact Nat.le_trans h (by decide)
theorem od_catT {K : PySem.W.Frag} (h : ds.length + es.length ≤ 16000000) : OpD (rCatA K) (.tuple ds) (.tuple es) (.tuple (ds ++ es)) := fun M H v w s rv rw' Q q => by
  obtain ⟨a, xs, rfl, ha, ra⟩ := rv.tupOf
  obtain ⟨b, ys, rfl, hb, rb⟩ := rw'.tupOf
  refine ⟨a, b, xs, ys, rfl, rfl, SqT.of (s _ _ ha), SqT.of (s _ _ hb), ?_, fun e => ?_, fun _ e => ?_, fun _ _ p hp => q _ _ _ ((Grow.refl s).new hp) (.tup upd_same ((ra.append rb).up (same_upd (none_of_same s hp))))⟩
  · rw [ra.length, rb.length]
    exact Nat.le_trans h (by decide)
  · subst e
    cases ra
    exact q _ M H (Grow.refl s) (.tup hb rb)
  · subst e
    cases rb
    rw [List.append_nil] at q
    exact q _ M H (Grow.refl s) (.tup ha ra)
/-! items, slices -/
theorem atI_len {α β : Type} {xs : List α} {ys : List β} (h : xs.length = ys.length) {i : Int} {v : α} (e : atI xs i = some v) : ∃ j : Nat, ixN xs.length i = some j ∧ xs[j]? = some v := by
  unfold atI at e
  cases q : ixN xs.length i with
  | none =>
    rw [q] at e
    cases e
  | some j =>
    rw [q] at e
    exact ⟨j, rfl, e⟩
theorem RpA.atI {H : Hp} {vs : List V} {i : Int} (rs : RpA H vs ds) (e : L2.atI ds i = some d) : ∃ v, L2.atI vs i = some v ∧ Rp H v d := by
  obtain ⟨j, h1, h2⟩ := atI_len (ys := vs) rs.length.symm e
  obtain ⟨v, h3, h4⟩ := rs.get h2
  refine ⟨v, ?_, h4⟩
  unfold L2.atI
  rw [rs.length, h1]
  exact h3
theorem od_ixL {K : PySem.W.Frag} {i : Int} (e : atI ds i = some d) : OpD (rIx K) (.list ds) (.int i) d := fun M H v w s rv rw' Q q => by
  obtain ⟨a, xs, rfl, ha, ra⟩ := rv.listOf
  cases rw'
  obtain ⟨v, h1, h2⟩ := ra.atI e
  exact .inl ⟨a, xs, i, v, rfl, rfl, SqL.of (s _ _ ha), h1, q v M H (Grow.refl s) h2⟩
theorem od_ixT {K : PySem.W.Frag} {i : Int} (e : atI ds i = some d) : OpD (rIx K) (.tuple ds) (.int i) d := fun M H v w s rv rw' Q q => by
  obtain ⟨a, xs, rfl, ha, ra⟩ := rv.tupOf
  cases rw'
  obtain ⟨v, h1, h2⟩ := ra.atI e
  exact .inr (.inl ⟨a, xs, i, v, rfl, rfl, SqT.of (s _ _ ha), h1, q v M H (Grow.refl s) h2⟩)
def cutD (xs : List PyData) (lo hi : Option Int) : List PyData := (xs.drop (HT.sIx xs.length 0 lo)).take (HT.sIx xs.length xs.length hi - HT.sIx xs.length 0 lo)
theorem RpA.cut {H : Hp} {vs : List V} (rs : RpA H vs ds) (lo hi : Option Int) : RpA H (cutV vs lo hi) (cutD ds lo hi) := by
  unfold cutV cutD
  rw [rs.length]
  exact (rs.drop _).take _
theorem ep_none : EvP tNoPart r none := fun M0 H0 σ M H R Q q => q M H (Grow.refl R.g.s)
theorem ep_some {i : Int} (h : EvD ta r (.int i)) : EvP (tPart ta) r (some i) := fun M0 H0 σ M H R Q q => h M0 H0 σ M H R _ fun v M1 H1 g1 r1 => by
  cases r1
  exact ⟨i, rfl, q M1 H1 g1⟩
theorem cutD_whole {xs : List PyData} {lo hi : Option Int} (h : HT.sIx xs.length 0 lo = 0 ∧ HT.sIx xs.length xs.length hi = xs.length) : cutD xs lo hi = xs := by
  unfold cutD
  rw [h.1, h.2]
  simp
theorem ev_slT {K : PySem.W.Frag} {tl th : TO} {lo hi : Option Int} (ha : EvD ta r (.tuple ds)) (hl : EvP tl r lo) (hh : EvP th r hi) : EvD (tSl (rSlA K) ta tl th) r (.tuple (cutD ds lo hi)) := fun M0 H0 σ M H R Q q =>
  ha M0 H0 σ M H R _ fun v M1 H1 g1 r1 => hl M0 H0 σ M1 H1 (R.grow g1) _ fun M2 H2 g2 => hh M0 H0 σ M2 H2 (R.grow (g1.trans g2)) _ fun M3 H3 g3 => by
    have g := (g1.trans g2).trans g3
    obtain ⟨a, xs, rfl, hA, ra⟩ := (r1.up (g2.trans g3).m).tupOf
    refine ⟨a, xs, rfl, SqT.of (g.s _ _ hA), fun e => ?_, fun _ p hp => q _ _ _ (g.new hp) (.tup upd_same ((ra.cut lo hi).up (same_upd (none_of_same g.s hp))))⟩
    rw [ra.length] at e
    have z := q (.ref a) M3 H3 g
    rw [cutD_whole e] at z
    exact z (.tup hA ra)
theorem eo_slL {K : PySem.W.Frag} {tl th : TO} {lo hi : Option Int} (ha : EvD ta r (.list ds)) (hl : EvP tl r lo) (hh : EvP th r hi) : EvO (tSl (rSlL K) ta tl th) r (cutD ds lo hi) := fun M0 H0 σ M H R Q q =>
  ha M0 H0 σ M H R _ fun v M1 H1 g1 r1 => hl M0 H0 σ M1 H1 (R.grow g1) _ fun M2 H2 g2 => hh M0 H0 σ M2 H2 (R.grow (g1.trans g2)) _ fun M3 H3 g3 => by
    have g := (g1.trans g2).trans g3
    obtain ⟨a, xs, rfl, hA, ra⟩ := (r1.up (g2.trans g3).m).listOf
    exact ⟨a, xs, rfl, SqL.of (g.s _ _ hA), fun p hp => q p _ M3 _ (g.newOwn hp) (Same.free g.h hp) (none_of_same g.s hp) upd_same (ra.cut lo hi)⟩
/-! tests -/
theorem eb_test {b : Bool} (h : EvD te r (.bool b)) : EvB (tTest te) r b := fun M0 H0 σ M H R Q q => h M0 H0 σ M H R _ fun v M1 H1 g1 r1 => by
  cases r1
  exact ⟨b, rfl, q M1 H1 g1⟩
theorem eb_B {b : Bool} (h : EvD te r (.bool b)) : EvB (tB te) r b := fun M0 H0 σ M H R Q q => h M0 H0 σ M H R _ fun v M1 H1 g1 r1 => by
  cases r1
  exact ⟨b, rfl, q M1 H1 g1⟩
theorem eb_not {b : Bool} (h : EvB t r b) : EvB (tNot t) r (!b) := fun M0 H0 σ M H R Q q => h M0 H0 σ M H R _ fun M1 H1 g1 => q M1 H1 g1
theorem eb_and {a b : Bool} (h1 : EvB t r a) (h2 : a = true → EvB u r b) : EvB (tAnd t u) r (a && b) := fun M0 H0 σ M H R Q q => h1 M0 H0 σ M H R _ fun M1 H1 g1 => by
  cases a with
  | true => exact h2 rfl M0 H0 σ M1 H1 (R.grow g1) Q fun M2 H2 g2 => q M2 H2 (g1.trans g2)
  | false => exact q M1 H1 g1
theorem eb_or {a b : Bool} (h1 : EvB t r a) (h2 : a = false → EvB u r b) : EvB (tOr t u) r (a || b) := fun M0 H0 σ M H R Q q => h1 M0 H0 σ M H R _ fun M1 H1 g1 => by
  cases a with
  | true => exact q M1 H1 g1
  | false => exact h2 rfl M0 H0 σ M1 H1 (R.grow g1) Q fun M2 H2 g2 => q M2 H2 (g1.trans g2)
theorem ev_and {a b : Bool} (h1 : EvD ta r (.bool a)) (h2 : a = true → EvD tb r (.bool b)) : EvD (tAndV ta tb) r (.bool (a && b)) := fun M0 H0 σ M H R Q q => h1 M0 H0 σ M H R _ fun v M1 H1 g1 r1 => by
  cases r1
  refine ⟨a, rfl, ?_⟩
  cases a with
  | true => exact h2 rfl M0 H0 σ M1 H1 (R.grow g1) Q fun v M2 H2 g2 => q v M2 H2 (g1.trans g2)
  | false => exact q _ M1 H1 g1 (.bl _)
theorem ev_or {a b : Bool} (h1 : EvD ta r (.bool a)) (h2 : a = false → EvD tb r (.bool b)) : EvD (tOrV ta tb) r (.bool (a || b)) := fun M0 H0 σ M H R Q q => h1 M0 H0 σ M H R _ fun v M1 H1 g1 r1 => by
  cases r1
  refine ⟨a, rfl, ?_⟩
  cases a with
  | true => exact q _ M1 H1 g1 (.bl _)
  | false => exact h2 rfl M0 H0 σ M1 H1 (R.grow g1) Q fun v M2 H2 g2 => q v M2 H2 (g1.trans g2)
theorem ev_notV {a : Bool} (h : EvD ta r (.bool a)) : EvD (tNotV ta) r (.bool (!a)) := fun M0 H0 σ M H R Q q => h M0 H0 σ M H R _ fun v M1 H1 g1 r1 => by
  cases r1
  exact ⟨a, rfl, q _ M1 H1 g1 (.bl _)⟩
/-- a op b op' c, ints -/
theorem ev_chain {g g' : Int → Int → Bool} {i j k : Int} {tc : TE} (ha : EvD ta r (.int i)) (hb : EvD tb r (.int j)) (hc : EvD tc r (.int k)) :
    EvD (tChain (rI0 fun i j => .bl (g i j)) (rI0 fun i j => .bl (g' i j)) ta tb tc) r (.bool (g i j && g' j k)) := fun M0 H0 σ M H R Q q =>
  ha M0 H0 σ M H R _ fun v M1 H1 g1 r1 => hb M0 H0 σ M1 H1 (R.grow g1) _ fun w M2 H2 g2 r2 => by
    cases r1
    cases r2
    refine ⟨i, j, rfl, rfl, g i j, rfl, ?_⟩
    cases e : g i j with
    | true =>
      rw [e] at q
      rw [if_pos rfl]
      refine hc M0 H0 σ M2 H2 (R.grow (g1.trans g2)) _ fun u M3 H3 g3 r3 => ?_
      cases r3
      exact ⟨j, k, rfl, rfl, q _ M3 H3 ((g1.trans g2).trans g3) (.bl _)⟩
    | false =>
      rw [e] at q
      rw [if_neg Bool.false_ne_true]
      exact q _ M2 H2 (g1.trans g2) (.bl _)
end
end Ck

/-! The data layer: targets, walks, statements, comprehensions, calls, defs. -/
namespace Ck
open PySem PySem.Spec PyProof.Rows L2

/-! ### forgetting slots -/
def wipeR (r : Ro) : List Nat → Ro
  | [] => r
  | v :: vs => (wipeR r vs).set v .no
theorem Rep.wipe {M0 H0 M H : Hp} {r : Ro} {σ : L2.St} (R : Rep M0 H0 r σ M H) : ∀ vs : List Nat, Rep M0 H0 (wipeR r vs) (L2.wipe σ vs) M H
  | [] => R
  | v :: vs => (R.wipe vs).drop
theorem wipe_get (σ : L2.St) (i : Nat) : ∀ vs : List Nat, (L2.wipe σ vs)[i]? = if i ∈ vs then (if i < σ.length then some none else none) else σ[i]?
  | [] => by simp [L2.wipe]
  | v :: vs => by
    unfold L2.wipe
    by_cases h : v = i
    · subst h
      rw [if_pos List.mem_cons_self]
      by_cases hl : v < σ.length
      · rw [if_pos hl, List.getElem?_set_self (by rw [wipe_length]; exact hl)]
      · rw [if_neg hl, List.getElem?_eq_none (by rw [List.length_set, wipe_length]; omega)]
    · rw [List.getElem?_set_ne h, wipe_get σ i vs]
      by_cases hm : i ∈ vs
      · rw [if_pos hm, if_pos (List.mem_cons_of_mem _ hm)]
      · rw [if_neg hm, if_neg (fun z => (List.mem_cons.mp z).elim (fun e => h e.symm) hm)]
theorem wipe_more {σ σ' : L2.St} {ws vs : List Nat} (h : L2.wipe σ' ws = L2.wipe σ ws) (hs : ∀ j ∈ ws, j ∈ vs) : L2.wipe σ' vs = L2.wipe σ vs := by
  have hl : σ'.length = σ.length := by
    have e := congrArg List.length h
    rw [wipe_length, wipe_length] at e
    exact e
  apply List.ext_getElem?
  intro i
  rw [wipe_get, wipe_get, hl]
  by_cases hm : i ∈ vs
  · rw [if_pos hm, if_pos hm]
  · rw [if_neg hm, if_neg hm]
    have e : (L2.wipe σ' ws)[i]? = (L2.wipe σ ws)[i]? := by rw [h]
    have hw : i ∉ ws := fun z => hm (hs i z)
    rw [wipe_get, wipe_get, if_neg hw, if_neg hw] at e
    exact e
theorem wipe_wipe (σ : L2.St) (vs : List Nat) : L2.wipe (L2.wipe σ vs) vs = L2.wipe σ vs := by
  apply List.ext_getElem?
  intro i
  rw [wipe_get, wipe_length, wipe_get]
  by_cases hm : i ∈ vs
  · rw [if_pos hm, if_pos hm]
  · rw [if_neg hm, if_neg hm]
theorem wipe_set (σ : L2.St) (j : Nat) (o : Option V) {vs : List Nat} (h : j ∈ vs) : L2.wipe (σ.set j o) vs = L2.wipe σ vs := by
  apply List.ext_getElem?
  intro i
  rw [wipe_get, wipe_get, List.length_set]
  by_cases hm : i ∈ vs
  · rw [if_pos hm, if_pos hm]
  · rw [if_neg hm, if_neg hm, List.getElem?_set_ne (fun z : j = i => hm (by rw [← z]; exact h))]

/-! ### targets -/
def TgD (g : TG) (r : Ro) (d : PyData) (r' : Ro) (ws : List Nat) : Prop := ∀ (M0 H0 : Hp) (v : V) (σ : L2.St) (M H : Hp), Rep M0 H0 r σ M H → Rp M v d → ∀ Q : L2.St → Hp → Prop,
  (∀ σ', Rep M0 H0 r' σ' M H → L2.wipe σ' ws = L2.wipe σ ws → Q σ' H) → g v σ H Q
def TgsD (g : TGs) (r : Ro) (ds : List PyData) (r' : Ro) (ws : List Nat) : Prop := ∀ (M0 H0 : Hp) (vs : List V) (σ : L2.St) (M H : Hp), Rep M0 H0 r σ M H → RpA M vs ds → ∀ Q : L2.St → Hp → Prop,
  (∀ σ', Rep M0 H0 r' σ' M H → L2.wipe σ' ws = L2.wipe σ ws → Q σ' H) → g vs σ H Q
section
variable {r r' r1 : Ro} {d : PyData} {ds : List PyData} {K : PySem.W.Frag}
theorem tg_name {j : Nat} : TgD (gName j) r d (r.set j (.dat d)) [j] := fun M0 H0 v σ M H R h Q q => q _ (R.put h) (wipe_set σ j _ List.mem_cons_self)
theorem tgs_nil : TgsD gNil r [] r [] := fun M0 H0 vs σ M H R h Q q => by
  cases h
  exact ⟨rfl, q σ R rfl⟩
theorem tgs_cons {g : TG} {u : TGs} {ws ws' : List Nat} (h1 : TgD g r d r1 ws) (h2 : TgsD u r1 ds r' ws') : TgsD (gCons g u) r (d :: ds) r' (ws ++ ws') := fun M0 H0 vs σ M H R h Q q => by
  cases h with
  | cons a b =>
    refine ⟨_, _, rfl, h1 M0 H0 _ σ M H R a _ fun σ1 R1 e1 => h2 M0 H0 _ σ1 M H R1 b Q fun σ2 R2 e2 => q σ2 R2 ?_⟩
    have f1 : L2.wipe σ1 (ws ++ ws') = L2.wipe σ (ws ++ ws') := wipe_more e1 fun j hj => List.mem_append_left _ hj
    have f2 : L2.wipe σ2 (ws ++ ws') = L2.wipe σ1 (ws ++ ws') := wipe_more e2 fun j hj => List.mem_append_right _ hj
    exact f2.trans f1
theorem tg_tup {g : TGs} {n : Nat} {ws : List Nat} (h : TgsD g r ds r' ws) (hn : ds.length = n) : TgD (gTup K n g) r (.tuple ds) r' ws := fun M0 H0 v σ M H R hv Q q => by
  obtain ⟨a, xs, rfl, hA, ra⟩ := hv.tupOf
  exact ⟨a, xs, rfl, SqT.of (R.g.s _ _ hA), ra.length.trans hn, h M0 H0 xs σ M H R ra Q q⟩
end

/-! ### what is walked -/
structure WkS (J : It) (M : Hp) (items : List PyData) : Prop where
  goes : ∀ (i : Nat) H, i < items.length → Same M H → J.go i H
  stops : ∀ H, Same M H → J.stop items.length H
  yields : ∀ (i : Nat) d H x H', items[i]? = some d → Same M H → J.yld i H x H' → ∀ M1, Same M M1 → Same M1 H → ∃ M2, Grow M1 H M2 H' ∧ Rp M2 x d
def WkD (wi : TI) (r : Ro) (items : List PyData) : Prop := ∀ (M0 H0 : Hp) (σ : L2.St) (M H : Hp), Rep M0 H0 r σ M H → ∀ Rr : It → Hp → Prop, (∀ J M' H', Grow M H M' H' → WkS J M' items → Rr J H') → wi σ H Rr
section
variable {r : Ro} {te : TE} {tA : TA} {ds es : List PyData} {K : PySem.W.Frag}
theorem wk_list (h : EvD te r (.list ds)) : WkD (iList K te) r ds := fun M0 H0 σ M H R Rr q => h M0 H0 σ M H R _ fun v M1 H1 g1 r1 => by
  obtain ⟨a, xs, rfl, hA, ra⟩ := r1.listOf
  refine ⟨a, rfl, ⟨xs, SqL.of (g1.s _ _ hA)⟩, q _ M1 H1 g1 ⟨fun i H' hi s => ?_, fun H' s => ⟨xs, SqL.of (s _ _ hA), Nat.le_of_eq ra.length⟩, fun i d H' x H'' hd s y M2 s2 s3 => ?_⟩⟩
  · have hl : i < xs.length := by rw [ra.length]; exact hi
    exact ⟨xs, xs[i], SqL.of (s _ _ hA), List.getElem?_eq_getElem hl⟩
  · obtain ⟨e, y⟩ := y
    subst e
    obtain ⟨v, h1, h2⟩ := ra.get hd
    have h3 := y xs (SqL.of (s _ _ hA))
    rw [h1] at h3
    cases h3
    exact ⟨M2, Grow.refl s3, h2.up s2⟩
theorem wk_tup (h : EvD te r (.tuple ds)) : WkD (iTup K te) r ds := fun M0 H0 σ M H R Rr q => h M0 H0 σ M H R _ fun v M1 H1 g1 r1 => by
  obtain ⟨a, xs, rfl, hA, ra⟩ := r1.tupOf
  refine ⟨a, rfl, ⟨xs, SqT.of (g1.s _ _ hA)⟩, q _ M1 H1 g1 ⟨fun i H' hi s => ?_, fun H' s => ⟨xs, SqT.of (s _ _ hA), Nat.le_of_eq ra.length⟩, fun i d H' x H'' hd s y M2 s2 s3 => ?_⟩⟩
  · have hl : i < xs.length := by rw [ra.length]; exact hi
    exact ⟨xs, xs[i], SqT.of (s _ _ hA), List.getElem?_eq_getElem hl⟩
  · obtain ⟨e, y⟩ := y
    subst e
    obtain ⟨v, h1, h2⟩ := ra.get hd
    have h3 := y xs (SqT.of (s _ _ hA))
    rw [h1] at h3
    cases h3
    exact ⟨M2, Grow.refl s3, h2.up s2⟩
def strD (z : Str) : List PyData := z.cps.toList.map fun c => .str ⟨#[c]⟩
theorem wk_str {z : Str} (h : EvD te r (.str z)) : WkD (iStr te) r (strD z) := fun M0 H0 σ M H R Rr q => h M0 H0 σ M H R _ fun v M1 H1 g1 r1 => by
  cases r1
  have hl : (strD z).length = z.cps.size := by simp [strD]
  refine ⟨z, rfl, q _ M1 H1 g1 ⟨fun i H' hi s => by rw [hl] at hi; exact hi, fun H' s => Nat.le_of_eq hl.symm, fun i d H' x H'' hd s y M2 s2 s3 => ?_⟩⟩
  obtain ⟨e, c, hc, rfl⟩ := y
  subst e
  have h3 : (strD z)[i]? = some (.str ⟨#[c]⟩) := by
    unfold strD
    rw [List.getElem?_map, Array.getElem?_toList, hc] <;> rfl
  rw [h3] at hd
  cases hd
  exact ⟨M2, Grow.refl s3, .str _⟩
def rngD (n : Nat) : List PyData := (List.range n).map fun i => .int (i : Nat)
theorem wk_rng {n : Int} (h : EvA tA r [.int n]) (hn : -(2 ^ 62) ≤ n ∧ n < 2 ^ 62) : WkD (iRng1 tA) r (rngD n.toNat) := fun M0 H0 σ M H R Rr q => h M0 H0 σ M H R _ fun vs M1 H1 g1 r1 => by
  cases r1 with
  | cons a b =>
    cases a
    cases b
    have hl : (rngD n.toNat).length = n.toNat := by simp [rngD]
    refine ⟨n, rfl, hn.1, hn.2, q _ M1 H1 g1 ⟨fun i H' hi s => by rw [hl] at hi; exact hi, fun H' s => Nat.le_of_eq hl.symm, fun i d H' x H'' hd s y M2 s2 s3 => ?_⟩⟩
    obtain ⟨e1, e2⟩ := y
    subst e1
    subst e2
    unfold rngD at hd
    rw [List.getElem?_map] at hd
    have hi : i < n.toNat := by
      by_cases hi : i < n.toNat
      · exact hi
      · rw [List.getElem?_eq_none (by rw [List.length_range]; omega)] at hd
        cases hd
    rw [List.getElem?_range hi] at hd
    cases hd
    refine ⟨M2, Grow.refl s3, ?_⟩
    rw [Int.zero_add]
    exact .int _
def zipD (xs ys : List PyData) : List PyData := List.zipWith (fun x y => .tuple [x, y]) xs ys
theorem zipD_get {xs ys : List PyData} {i : Nat} {d : PyData} (h : (zipD xs ys)[i]? = some d) : ∃ x y, xs[i]? = some x ∧ ys[i]? = some y ∧ d = .tuple [x, y] := by
  unfold zipD at h
  rw [List.getElem?_zipWith] at h
  cases hx : xs[i]? with
  | none =>
    rw [hx] at h
    cases h
  | some x =>
    cases hy : ys[i]? with
    | none =>
      rw [hx, hy] at h
      cases h
    | some y =>
      rw [hx, hy] at h
      exact ⟨x, y, rfl, rfl, (Option.some.inj h).symm⟩
theorem pair_new {M1 H H' : Hp} {T : Addr} {x y : V} {d e : PyData} (s : Same M1 H) (hT : H T = none) (hx : Rp M1 x d) (hy : Rp M1 y e) (eH : H' = upd H T (.tup [x, y])) : ∃ M2, Grow M1 H M2 H' ∧ Rp M2 (.ref T) (.tuple [d, e]) := by
  subst eH
  have hm := none_of_same s hT
  exact ⟨_, (Grow.refl s).new hT, .tup upd_same (.cons (hx.up (same_upd hm)) (.cons (hy.up (same_upd hm)) .nil))⟩
theorem wk_zipL (h : EvA tA r [.list ds, .list es]) (hl : ds.length = es.length) : WkD (RZ.iZipA K tA) r (zipD ds es) := fun M0 H0 σ M H R Rr q => h M0 H0 σ M H R _ fun vs M1 H1 g1 r1 => by
  cases r1 with
  | cons p b =>
    cases b with
    | cons p2 b =>
      cases b
      obtain ⟨a, xs, rfl, hA, ra⟩ := p.listOf
      obtain ⟨b, ys, rfl, hB, rb⟩ := p2.listOf
      have hz : (zipD ds es).length = ds.length := by unfold zipD; rw [List.length_zipWith, hl, Nat.min_self]
      refine ⟨a, b, xs, ys, rfl, .inl ⟨SqL.of (g1.s _ _ hA), SqL.of (g1.s _ _ hB), q _ M1 H1 g1 ⟨fun i H' hi s => ?_, fun H' s => ⟨xs, ys, SqL.of (s _ _ hA), SqL.of (s _ _ hB), .inl (by rw [hz, ra.length]; exact Nat.le_refl _)⟩, fun i d H' x H'' hd s y M2 s2 s3 => ?_⟩⟩⟩
      · rw [hz] at hi
        have h1 : i < xs.length := by rw [ra.length]; exact hi
        have h2 : i < ys.length := by rw [rb.length, ← hl]; exact hi
        exact ⟨xs, ys, xs[i], ys[i], SqL.of (s _ _ hA), SqL.of (s _ _ hB), List.getElem?_eq_getElem h1, List.getElem?_eq_getElem h2⟩
      · obtain ⟨T, x', y', rfl, hT, eH, f1, f2⟩ := y
        obtain ⟨dx, dy, e1, e2, rfl⟩ := zipD_get hd
        obtain ⟨v1, k1, k2⟩ := ra.get e1
        obtain ⟨v2, k3, k4⟩ := rb.get e2
        have f1 := f1 xs (SqL.of (s _ _ hA))
        have f2 := f2 ys (SqL.of (s _ _ hB))
        rw [k1] at f1
        rw [k3] at f2
        cases f1
        cases f2
        exact pair_new s3 hT (k2.up s2) (k4.up s2) eH
theorem wk_zipT (h : EvA tA r [.tuple ds, .tuple es]) (hl : ds.length = es.length) : WkD (RZ.iZipA K tA) r (zipD ds es) := fun M0 H0 σ M H R Rr q => h M0 H0 σ M H R _ fun vs M1 H1 g1 r1 => by
  cases r1 with
  | cons p b =>
    cases b with
    | cons p2 b =>
      cases b
      obtain ⟨a, xs, rfl, hA, ra⟩ := p.tupOf
      obtain ⟨b, ys, rfl, hB, rb⟩ := p2.tupOf
      have hz : (zipD ds es).length = ds.length := by unfold zipD; rw [List.length_zipWith, hl, Nat.min_self]
      refine ⟨a, b, xs, ys, rfl, .inr ⟨SqT.of (g1.s _ _ hA), SqT.of (g1.s _ _ hB), q _ M1 H1 g1 ⟨fun i H' hi s => ?_, fun H' s => ⟨xs, ys, SqT.of (s _ _ hA), SqT.of (s _ _ hB), .inl (by rw [hz, ra.length]; exact Nat.le_refl _)⟩, fun i d H' x H'' hd s y M2 s2 s3 => ?_⟩⟩⟩
      · rw [hz] at hi
        have h1 : i < xs.length := by rw [ra.length]; exact hi
        have h2 : i < ys.length := by rw [rb.length, ← hl]; exact hi
        exact ⟨xs, ys, xs[i], ys[i], SqT.of (s _ _ hA), SqT.of (s _ _ hB), List.getElem?_eq_getElem h1, List.getElem?_eq_getElem h2⟩
      · obtain ⟨T, x', y', rfl, hT, eH, f1, f2⟩ := y
        obtain ⟨dx, dy, e1, e2, rfl⟩ := zipD_get hd
        obtain ⟨v1, k1, k2⟩ := ra.get e1
        obtain ⟨v2, k3, k4⟩ := rb.get e2
        have f1 := f1 xs (SqT.of (s _ _ hA))
        have f2 := f2 ys (SqT.of (s _ _ hB))
        rw [k1] at f1
        rw [k3] at f2
        cases f1
        cases f2
        exact pair_new s3 hT (k2.up s2) (k4.up s2) eH
end

/-! ### statements -/
inductive Res where
  | nx (r : Ro)
  | ret (d : PyData)
  | new (ds : List PyData)
  | exc (x : Str) (r : Ro)
/-- what must follow -/
def Post (K : PySem.W.Frag) (W : WX) (M0 H0 : Hp) (D : Ends) (M : Hp) : Res → Prop
  | .nx r' => ∀ σ' M' H', Same M M' → Rep M0 H0 r' σ' M' H' → D.nx σ' H'
  | .ret d => ∀ v M' H', Grow M0 H0 M' H' → Rp M' v d → D.rt v H'
  | .new ds => ∀ a vs M' H', Grow M0 H0 M' H' → H0 a = none → M' a = none → H' a = some (.lst vs) → RpA M' vs ds → D.rt (.ref a) H'
  | .exc x r' => ∀ σ' M' H', Same M M' → Rep M0 H0 r' σ' M' H' → W (.ref (He.ga K x)) none σ' H'
theorem Post.later {K : PySem.W.Frag} {W : WX} {M0 H0 M M' : Hp} {D : Ends} {o : Res} (p : Post K W M0 H0 D M o) (s : Same M M') : Post K W M0 H0 D M' o := by
  cases o with
  | nx r' => exact fun σ' M2 H' s2 R => p σ' M2 H' (s.trans s2) R
  | ret d => exact p
  | new d => exact p
  | exc x r' => exact fun σ' M2 H' s2 R => p σ' M2 H' (s.trans s2) R
def ExS (K : PySem.W.Frag) (W : WX) (ts : TS) (r : Ro) (o : Res) : Prop := ∀ (M0 H0 : Hp) (D : Ends) (σ : L2.St) (M H : Hp), Rep M0 H0 r σ M H → Post K W M0 H0 D M o → ts D σ H
def Res.out : Res → Prop
  | .nx _ => False
  | _ => True
theorem Post.ends {K : PySem.W.Frag} {W : WX} {M0 H0 M : Hp} {D D' : Ends} {o : Res} (p : Post K W M0 H0 D M o) (ho : o.out) (e : D'.rt = D.rt) : Post K W M0 H0 D' M o := by
  cases o with
  | nx r' => exact ho.elim
  | ret d =>
    intro v M' H' g h
    rw [e]
    exact p v M' H' g h
  | new d =>
    intro a vs M' H' g h1 h2 h3 h4
    rw [e]
    exact p a vs M' H' g h1 h2 h3 h4
  | exc x r' => exact p
/-- a raising expression -/
def EvX (K : PySem.W.Frag) (W : WX) (te : TE) (r : Ro) (x : Str) : Prop := ∀ (M0 H0 : Hp) (σ : L2.St) (M H : Hp), Rep M0 H0 r σ M H → (∀ M' H', Grow M H M' H' → W (.ref (He.ga K x)) none σ H') → ∀ Q : VK, te σ H Q
section
variable {K : PySem.W.Frag} {W : WX} {r r1 r' : Ro} {t u : TS} {te : TE} {tc : TT} {d : PyData} {ds : List PyData} {o : Res} {g : TG}
theorem ex_seq (h1 : ExS K W t r (.nx r1)) (h2 : ExS K W u r1 o) : ExS K W (tSeq t u) r o := fun M0 H0 D σ M H R p =>
  h1 M0 H0 { D with nx := u D } σ M H R fun σ' M' H' s R' => h2 M0 H0 D σ' M' H' R' (p.later s)
theorem ex_stop (h1 : ExS K W t r o) (ho : o.out) : ExS K W (tSeq t u) r o := fun M0 H0 D σ M H R p =>
  h1 M0 H0 { D with nx := u D } σ M H R (p.ends ho rfl)
theorem ex_next : ExS K W tNext r (.nx r) := fun M0 H0 D σ M H R p => p σ M H (Same.refl _) R
theorem ex_drop (h : EvD te r d) : ExS K W (tDrop te) r (.nx r) := fun M0 H0 D σ M H R p => h M0 H0 σ M H R _ fun v M' H' g' _ => p σ M' H' g'.m (R.grow g')
theorem ex_dropX {x : Str} (h : EvX K W te r x) : ExS K W (tDrop te) r (.exc x r) := fun M0 H0 D σ M H R p => h M0 H0 σ M H R (fun M' H' g' => p σ M' H' g'.m (R.grow g')) _
theorem ex_asg {ws : List Nat} (h : EvD te r d) (hg : TgD g r d r' ws) : ExS K W (tAsg te g) r (.nx r') := fun M0 H0 D σ M H R p =>
  h M0 H0 σ M H R _ fun v M' H' g' hv => hg M0 H0 v σ M' H' (R.grow g') hv D.nx fun σ' R' _ => p σ' M' H' g'.m R'
theorem ex_set {j : Nat} (h : EvD te r d) : ExS K W (tAsg te (gName j)) r (.nx (r.set j (.dat d))) := ex_asg h tg_name
theorem ex_asgX {x : Str} (h : EvX K W te r x) : ExS K W (tAsg te g) r (.exc x r) := fun M0 H0 D σ M H R p => h M0 H0 σ M H R (fun M' H' g' => p σ M' H' g'.m (R.grow g')) _
theorem ex_setO {j : Nat} (h : EvO te r ds) : ExS K W (tAsg te (gName j)) r (.nx (r.set j (.own ds))) := fun M0 H0 D σ M H R p =>
  h M0 H0 σ M H R _ fun a vs M' H' g' n1 m1 h1 r1 => p _ M' H' g'.m ((R.grow g').putOwn (Same.free R.g.h n1) m1 h1 r1 fun i es _ e z => by
    obtain ⟨b, us, k1, _, _, k4, _⟩ := R.own i es e
    rw [k1] at z
    cases z
    rw [n1] at k4
    cases k4)
theorem ex_ret (h : EvD te r d) : ExS K W (tRet te) r (.ret d) := fun M0 H0 D σ M H R p => h M0 H0 σ M H R _ fun v M' H' g' hv => p v M' H' (R.g.trans g') hv
theorem ex_retX {x : Str} (h : EvX K W te r x) : ExS K W (tRet te) r (.exc x r) := fun M0 H0 D σ M H R p => h M0 H0 σ M H R (fun M' H' g' => p σ M' H' g'.m (R.grow g')) _
/-- an own list is handed back as it is -/
theorem ex_retNew {i : Nat} (h : r[i]? = some (.own ds)) : ExS K W (tRet (tVar i)) r (.new ds) := fun M0 H0 D σ M H R p => by
  obtain ⟨a, vs, h1, h2, h3, h4, h5⟩ := R.own i ds h
  exact ⟨.ref a, h1, p a vs M H R.g h2 h3 h4 h5⟩
/-- an own list comes to rest -/
theorem ex_rest {j : Nat} (hj : r[j]? = some (.own ds)) (h : ExS K W t (r.set j (.dat (.list ds))) o) : ExS K W t r o := fun M0 H0 D σ M H R p => by
  obtain ⟨M', g, s, R'⟩ := R.rest hj
  exact h M0 H0 D σ M' H R' (p.later s)
theorem ex_if {b : Bool} (hc : EvB tc r b) (h : ExS K W (if b = true then t else u) r o) : ExS K W (tIfS tc t u) r o := fun M0 H0 D σ M H R p =>
  hc M0 H0 σ M H R _ fun M' H' g' => by
    cases b with
    | true => exact h M0 H0 D σ M' H' (R.grow g') (p.later g'.m)
    | false => exact h M0 H0 D σ M' H' (R.grow g') (p.later g'.m)
theorem ex_ifT (hc : EvB tc r true) (h : ExS K W t r o) : ExS K W (tIfS tc t u) r o := ex_if hc (by rw [if_pos rfl]; exact h)
theorem ex_ifF (hc : EvB tc r false) (h : ExS K W u r o) : ExS K W (tIfS tc t u) r o := ex_if hc (by rw [if_neg Bool.false_ne_true]; exact h)
theorem ex_raise {x : Str} : ExS K W (fun _ σ H => (fun (_ : L2.St) (H : Hp) (Q : XK) => Q (.ref (He.ga K x)) none H) σ H fun cls d H' => W cls d σ H') r (.exc x r) := fun M0 H0 D σ M H R p => p σ M H (Same.refl _) R
theorem ex_is {o' : Res} (h : ExS K W t r o) (e : o = o') : ExS K W t r o' := by
  rw [← e]
  exact h
/-- x op= e -/
theorem ex_aug {i : Nat} {rr : TIp} {x y z : PyData} (hx : r[i]? = some (.dat x)) (h : EvD te r y) (ho : OpD rr x y z) : ExS K W (tAug i te rr) r (.nx (r.set i (.dat z))) := fun M0 H0 D σ M H R p => by
  obtain ⟨v, h1, h2⟩ := R.dat i x hx
  exact ⟨v, h1, h M0 H0 σ M H R _ fun w M1 H1 g1 r1 => ho M1 H1 v w g1.s (h2.up g1.m) r1 _ fun u M2 H2 g2 r2 => p _ M2 H2 (g1.trans g2).m ((R.grow (g1.trans g2)).put r2)⟩
/-! loops -/
theorem ex_for {wi : TI} {items : List PyData} (f : Nat → Ro) (hw : WkD wi r items) (h0 : f 0 = r) (hs : ∀ (i : Nat) d, items[i]? = some d → ∃ r1 ws, TgD g (f i) d r1 ws ∧ ExS K W t r1 (.nx (f (i + 1)))) :
    ExS K W (tFor wi g t) r (.nx (f items.length)) := fun M0 H0 D σ M H R p => hw M0 H0 σ M H R _ fun J Mw Hw gw wk => by
  refine ⟨fun i m σ H => m = items.length - i ∧ i ≤ items.length ∧ ∃ M', Same Mw M' ∧ Rep M0 H0 (f i) σ M' H, ⟨items.length, by simp, Nat.zero_le _, Mw, Same.refl _, by rw [h0]; exact R.grow gw⟩, ?_⟩
  rintro i m σ1 H1 ⟨rfl, hi, M1, s1, R1⟩
  by_cases hlt : i < items.length
  · refine .inr ⟨wk.goes i H1 hlt (s1.trans R1.g.s), fun σ2 H2 => ∃ M', Same Mw M' ∧ Rep M0 H0 (f (i + 1)) σ2 M' H2, fun σ' H' p' => ⟨items.length - (i + 1), by omega, rfl, hlt, p'⟩, fun x H' y => ?_⟩
    have hd : items[i]? = some items[i] := List.getElem?_eq_getElem hlt
    obtain ⟨M2, g2, rx⟩ := wk.yields i _ H1 x H' hd (s1.trans R1.g.s) y M1 s1 R1.g.s
    obtain ⟨r1, ws, h1, h2⟩ := hs i _ hd
    refine h1 M0 H0 x σ1 M2 H' (R1.grow g2) rx _ fun σ2 R2 _ => ?_
    exact h2 M0 H0 _ σ2 M2 H' R2 fun σ3 M3 H3 s3 R3 => ⟨M3, (s1.trans g2.m).trans s3, R3⟩
  · have e : i = items.length := by omega
    subst e
    exact .inl ⟨wk.stops H1 (s1.trans R1.g.s), p σ1 M1 H1 (gw.m.trans s1) R1⟩
/-- a loop that is left in the turn k -/
theorem ex_forExit {wi : TI} {items : List PyData} (f : Nat → Ro) (k : Nat) (ho : o.out) (hw : WkD wi r items) (h0 : f 0 = r) (hs : ∀ (i : Nat) d, i < k → items[i]? = some d → ∃ r1 ws, TgD g (f i) d r1 ws ∧ ExS K W t r1 (.nx (f (i + 1))))
    (hk : ∃ d r1 ws, items[k]? = some d ∧ TgD g (f k) d r1 ws ∧ ExS K W t r1 o) : ExS K W (tFor wi g t) r o := fun M0 H0 D σ M H R p => hw M0 H0 σ M H R _ fun J Mw Hw gw wk => by
  obtain ⟨dk, rk, wk', hdk, hk1, hk2⟩ := hk
  have hkl : k < items.length := (List.getElem?_eq_some_iff.mp hdk).1
  refine ⟨fun i m σ H => m = items.length - i ∧ i ≤ k ∧ ∃ M', Same Mw M' ∧ Rep M0 H0 (f i) σ M' H, ⟨items.length, by simp, Nat.zero_le _, Mw, Same.refl _, by rw [h0]; exact R.grow gw⟩, ?_⟩
  rintro i m σ1 H1 ⟨rfl, hi, M1, s1, R1⟩
  by_cases hlt : i < k
  · refine .inr ⟨wk.goes i H1 (by omega) (s1.trans R1.g.s), fun σ2 H2 => ∃ M', Same Mw M' ∧ Rep M0 H0 (f (i + 1)) σ2 M' H2, fun σ' H' p' => ⟨items.length - (i + 1), by omega, rfl, hlt, p'⟩, fun x H' y => ?_⟩
    have hd : items[i]? = some (items[i]'(by omega)) := List.getElem?_eq_getElem (by omega)
    obtain ⟨M2, g2, rx⟩ := wk.yields i _ H1 x H' hd (s1.trans R1.g.s) y M1 s1 R1.g.s
    obtain ⟨r1, ws, h1, h2⟩ := hs i _ hlt hd
    refine h1 M0 H0 x σ1 M2 H' (R1.grow g2) rx _ fun σ2 R2 _ => ?_
    exact h2 M0 H0 _ σ2 M2 H' R2 fun σ3 M3 H3 s3 R3 => ⟨M3, (s1.trans g2.m).trans s3, R3⟩
  · have e : i = k := by omega
    subst e
    refine .inr ⟨wk.goes i H1 hkl (s1.trans R1.g.s), fun σ2 H2 => False, fun σ' H' p' => p'.elim, fun x H' y => ?_⟩
    obtain ⟨M2, g2, rx⟩ := wk.yields i _ H1 x H' hdk (s1.trans R1.g.s) y M1 s1 R1.g.s
    refine hk1 M0 H0 x σ1 M2 H' (R1.grow g2) rx _ fun σ2 R2 _ => ?_
    exact hk2 M0 H0 _ σ2 M2 H' R2 ((p.later ((gw.m.trans s1).trans g2.m)).ends ho rfl)
theorem ex_while (f : Nat → Ro) (n : Nat) (h0 : f 0 = r) (ht : ∀ (i : Nat), i < n → EvB tc (f i) true) (hb : ∀ (i : Nat), i < n → ExS K W t (f i) (.nx (f (i + 1)))) (he : EvB tc (f n) false) :
    ExS K W (tWhile tc t) r (.nx (f n)) := fun M0 H0 D σ M H R p => by
  refine ⟨fun m σ H => ∃ i, m = n - i ∧ i ≤ n ∧ ∃ M', Same M M' ∧ Rep M0 H0 (f i) σ M' H, ⟨n, 0, by simp, Nat.zero_le _, M, Same.refl _, by rw [h0]; exact R⟩, ?_⟩
  rintro m σ1 H1 ⟨i, rfl, hi, M1, s1, R1⟩
  by_cases hlt : i < n
  · refine ht i hlt M0 H0 σ1 M1 H1 R1 _ fun M2 H2 g2 => ?_
    rw [if_pos rfl]
    refine ⟨fun σ2 H2 => ∃ M', Same M M' ∧ Rep M0 H0 (f (i + 1)) σ2 M' H2, fun σ' H' p' => ⟨n - (i + 1), by omega, i + 1, rfl, hlt, p'⟩, ?_⟩
    exact hb i hlt M0 H0 _ σ1 M2 H2 (R1.grow g2) fun σ3 M3 H3 s3 R3 => ⟨M3, (s1.trans g2.m).trans s3, R3⟩
  · have e : i = n := by omega
    subst e
    refine he M0 H0 σ1 M1 H1 R1 _ fun M2 H2 g2 => ?_
    rw [if_neg Bool.false_ne_true]
    exact p σ1 M2 H2 (s1.trans g2.m) (R1.grow g2)
/-! one's own lists change -/
theorem tyV_lst {H : Hp} {a : Addr} {vs : List V} (h : H a = some (.lst vs)) : tyV K "list" (.ref a) H := .inl ⟨rfl, _, SqL.of h⟩
theorem ex_append {i : Nat} (hi : r[i]? = some (.own ds)) (h : EvD te r d) (hl : ds.length ≤ 100000) : ExS K W (tDrop (tBM K "list" rAppend (tVar i) (tCons te tNil))) r (.nx (r.set i (.own (ds ++ [d])))) := fun M0 H0 D σ M H R p => by
  obtain ⟨a, vs, h1, h2, h3, h4, h5⟩ := R.own i ds hi
  refine ⟨.ref a, h1, tyV_lst h4, h M0 H0 σ M H R _ fun v M1 H1 g1 r1 => ⟨a, vs, v, rfl, rfl, g1.h _ _ h4, ?_, ?_⟩⟩
  · rw [h5.length]
    exact Nat.lt_of_le_of_lt hl (by decide)
  · exact p σ M1 _ g1.m ((R.grow g1).mut hi h1 ((h5.up g1.m).append (.cons r1 .nil)))
def rExtT (K : PySem.W.Frag) : V → List V → Hp → VK → Prop := fun x vs H Q => ∃ l b xs zs, x = .ref l ∧ vs = [.ref b] ∧ H l = some (.lst xs) ∧ H b = some (.tup zs) ∧ xs.length + zs.length ≤ sizeLine ∧ Q .non (upd H l (.lst (xs ++ zs)))
theorem ex_extend {i : Nat} {es : List PyData} (hi : r[i]? = some (.own ds)) (h : EvD te r (.list es)) (hl : ds.length + es.length ≤ 100000) : ExS K W (tDrop (tBM K "list" rExtend (tVar i) (tCons te tNil))) r (.nx (r.set i (.own (ds ++ es)))) := fun M0 H0 D σ M H R p => by
  obtain ⟨a, vs, h1, h2, h3, h4, h5⟩ := R.own i ds hi
  refine ⟨.ref a, h1, tyV_lst h4, h M0 H0 σ M H R _ fun v M1 H1 g1 r1 => ?_⟩
  obtain ⟨b, ws, rfl, hB, rb⟩ := r1.listOf
  refine ⟨a, b, vs, ws, rfl, rfl, g1.h _ _ h4, g1.s _ _ hB, ?_, ?_⟩
  · rw [h5.length, rb.length]
    exact Nat.le_trans hl (by decide)
  · exact p σ M1 _ g1.m ((R.grow g1).mut hi h1 ((h5.up g1.m).append rb))
theorem ex_extendT {i : Nat} {es : List PyData} (hi : r[i]? = some (.own ds)) (h : EvD te r (.tuple es)) (hl : ds.length + es.length ≤ 100000) : ExS K W (tDrop (tBM K "list" (rExtT K) (tVar i) (tCons te tNil))) r (.nx (r.set i (.own (ds ++ es)))) := fun M0 H0 D σ M H R p => by
  obtain ⟨a, vs, h1, h2, h3, h4, h5⟩ := R.own i ds hi
  refine ⟨.ref a, h1, tyV_lst h4, h M0 H0 σ M H R _ fun v M1 H1 g1 r1 => ?_⟩
  obtain ⟨b, ws, rfl, hB, rb⟩ := r1.tupOf
  refine ⟨a, b, vs, ws, rfl, rfl, g1.h _ _ h4, g1.s _ _ hB, ?_, ?_⟩
  · rw [h5.length, rb.length]
    exact Nat.le_trans hl (by decide)
  · exact p σ M1 _ g1.m ((R.grow g1).mut hi h1 ((h5.up g1.m).append rb))
/-- xs[k] = e -/
theorem ex_setItem {i j : Nat} {k : Int} {ti : TE} (hi : r[i]? = some (.own ds)) (h : EvD te r d) (hk : EvD ti r (.int k)) (hj : ixN ds.length k = some j) :
    ExS K W (tAsg te (gSub (tVar i) ti rSetL)) r (.nx (r.set i (.own (ds.set j d)))) := fun M0 H0 D σ M H R p =>
  h M0 H0 σ M H R _ fun v M1 H1 g1 r1 => by
    obtain ⟨a, vs, h1, h2, h3, h4, h5⟩ := (R.grow g1).own i ds hi
    refine ⟨.ref a, h1, hk M0 H0 σ M1 H1 (R.grow g1) _ fun w M2 H2 g2 r2 => ?_⟩
    cases r2
    refine ⟨a, vs, k, j, rfl, rfl, g2.h _ _ h4, by rw [h5.length]; exact hj, ?_⟩
    exact p σ M2 _ (g1.trans g2).m ((R.grow (g1.trans g2)).mut hi h1 ((h5.up g2.m).set (r1.up g2.m) j))
end

/-! ### list comprehensions -/
section
variable {K : PySem.W.Frag} {r rw : Ro} {wi : TI} {g : TG} {tt : TT} {te : TE} {vs : List Nat} {items : List PyData}
theorem eo_lcG (A : Nat → List PyData) (hw : WkD wi r items) (hrw : rw = wipeR r vs) (h0 : A 0 = []) (hlen : ∀ (i : Nat), i < items.length → (A i).length ≤ 100000)
    (hs : ∀ (i : Nat) d, items[i]? = some d → ∃ r1 ws, TgD g rw d r1 ws ∧ (∀ j ∈ ws, j ∈ vs) ∧ ((EvB tt r1 false ∧ A (i + 1) = A i) ∨ ∃ y, EvB tt r1 true ∧ EvD te r1 y ∧ A (i + 1) = A i ++ [y])) :
    EvO (tLc wi g tt te vs) r (A items.length) := fun M0 H0 σ M H R Q q => hw M0 H0 σ M H R _ fun J Mw Hw gw wk Dl hD => by
  subst hrw
  have Rw : Rep M0 H0 (wipeR r vs) (L2.wipe σ vs) Mw Hw := (R.grow gw).wipe vs
  have base : ∀ {M1 H1 : Hp}, Grow Mw Hw M1 H1 → Rep M0 H0 (wipeR r vs) (L2.wipe σ vs) M1 H1 := fun g => Rw.grow g
  refine ⟨fun i m H' => m = items.length - i ∧ i ≤ items.length ∧ ∃ M' acc, Grow Mw Hw M' H' ∧ M' Dl = none ∧ H' Dl = some (.lst acc) ∧ RpA M' acc (A i),
    ⟨items.length, by simp, Nat.zero_le _, Mw, [], (Grow.refl Rw.g.s).newOwn hD, none_of_same Rw.g.s hD, upd_same, by rw [h0]; exact .nil⟩, ?_⟩
  rintro i m H1 ⟨rfl, hi, M1, acc, g1, m1, d1, ra⟩
  by_cases hlt : i < items.length
  · refine .inr ⟨wk.goes i H1 hlt (g1.m.trans g1.s), fun H' => ∃ M' acc, Grow Mw Hw M' H' ∧ M' Dl = none ∧ H' Dl = some (.lst acc) ∧ RpA M' acc (A (i + 1)), fun H' p' => ⟨items.length - (i + 1), by omega, rfl, hlt, p'⟩, fun x H' y => ?_⟩
    have hd : items[i]? = some items[i] := List.getElem?_eq_getElem hlt
    obtain ⟨M2, g2, rx⟩ := wk.yields i _ H1 x H' hd (g1.m.trans g1.s) y M1 g1.m g1.s
    obtain ⟨r1, ws, h1, hsub, h2⟩ := hs i _ hd
    refine h1 M0 H0 x (L2.wipe σ vs) M2 H' ((base g1).grow g2) rx _ fun σ2 R2 e2 => ⟨(wipe_more e2 hsub).trans (wipe_wipe σ vs), ?_⟩
    have m2 : M2 Dl = none := g2.ap _ _ m1 d1
    have d2 := g2.h _ _ d1
    rcases h2 with ⟨ht, eA⟩ | ⟨y, ht, he, eA⟩
    · refine ht M0 H0 σ2 M2 H' R2 _ fun M3 H3 g3 => ?_
      rw [if_neg Bool.false_ne_true]
      exact ⟨M3, acc, (g1.trans g2).trans g3, g3.ap _ _ m2 d2, g3.h _ _ d2, by rw [eA]; exact ra.up (g2.trans g3).m⟩
    · refine ht M0 H0 σ2 M2 H' R2 _ fun M3 H3 g3 => ?_
      rw [if_pos rfl]
      have m3 := g3.ap _ _ m2 d2
      have d3 := g3.h _ _ d2
      refine he M0 H0 σ2 M3 H3 (R2.grow g3) _ fun v M4 H4 g4 r4 => ⟨acc, g4.h _ _ d3, ?_, M4, acc ++ [v], ?_, g4.ap _ _ m3 d3, upd_same, ?_⟩
      · rw [ra.length]
        exact Nat.lt_of_le_of_lt (hlen i hlt) (by decide)
      · exact (((g1.trans g2).trans g3).trans g4).mut hD (g4.ap _ _ m3 d3)
      · rw [eA]
        exact (ra.up ((g2.trans g3).trans g4).m).append (.cons r4 .nil)
  · have e : i = items.length := by omega
    subst e
    exact .inl ⟨wk.stops H1 (g1.m.trans g1.s), q Dl acc M1 H1 (gw.trans g1) (Same.free gw.h hD) m1 d1 ra⟩
theorem eb_yes : EvB tYes r true := fun M0 H0 σ M H R Q q => q M H (Grow.refl R.g.s)
/-- no test: every item gives one -/
theorem eo_lc (ys : List PyData) (hw : WkD wi r items) (hrw : rw = wipeR r vs) (hl : ys.length = items.length) (hle : ys.length ≤ 100000)
    (hs : ∀ (i : Nat) d y, items[i]? = some d → ys[i]? = some y → ∃ r1 ws, TgD g rw d r1 ws ∧ (∀ j ∈ ws, j ∈ vs) ∧ EvD te r1 y) : EvO (tLc wi g tYes te vs) r ys := by
  have h := eo_lcG (tt := tYes) (te := te) (g := g) (vs := vs) (fun i => ys.take i) hw hrw rfl (fun i hi => by rw [List.length_take]; omega) fun i d hd => by
    have hi : i < items.length := (List.getElem?_eq_some_iff.mp hd).1
    have hy : ys[i]? = some (ys[i]'(by omega)) := List.getElem?_eq_getElem (by omega)
    obtain ⟨r1, ws, h1, h2, h3⟩ := hs i d _ hd hy
    refine ⟨r1, ws, h1, h2, .inr ⟨_, eb_yes, h3, ?_⟩⟩
    rw [List.take_add_one, hy] <;> rfl
  rw [← hl, List.take_length] at h
  exact h
end

/-! ### calls of defs -/
inductive Out where
  | ret (d : PyData)
  | new (ds : List PyData)
  | exc (x : Str)
def OutP (K : PySem.W.Frag) (M H : Hp) (Q : VK) (E : XK) : Out → Prop
  | .ret d => ∀ v M' H', Grow M H M' H' → Rp M' v d → Q v H'
  | .new ds => ∀ a vs M' H', Grow M H M' H' → H a = none → M' a = none → H' a = some (.lst vs) → RpA M' vs ds → Q (.ref a) H'
  | .exc x => ∀ M' H', Grow M H M' H' → E (.ref (He.ga K x)) none H'
abbrev Con := List PyData → Out → Prop
def spD (K : PySem.W.Frag) (R : Con) : Sp := fun vs H Q E => ∃ M ds o, Same M H ∧ RpA M vs ds ∧ R ds o ∧ OutP K M H Q E o
abbrev W0 : WX := fun _ _ _ _ => False
section
variable {K : PySem.W.Frag} {R : Con} {r : Ro} {tA : TA} {ds es : List PyData} {d : PyData} {Es : L2.St → XK}
theorem ev_call (h : EvA tA r ds) (hR : R ds (.ret d)) : EvD (tCallS (spD K R) Es tA) r d := fun M0 H0 σ M H Rp Q q =>
  h M0 H0 σ M H Rp _ fun vs M1 H1 g1 r1 => ⟨M1, ds, .ret d, g1.s, r1, hR, fun v M2 H2 g2 r2 => q v M2 H2 (g1.trans g2) r2⟩
theorem eo_call (h : EvA tA r ds) (hR : R ds (.new es)) : EvO (tCallS (spD K R) Es tA) r es := fun M0 H0 σ M H Rp Q q =>
  h M0 H0 σ M H Rp _ fun vs M1 H1 g1 r1 => ⟨M1, ds, .new es, g1.s, r1, hR, fun a ws M2 H2 g2 n2 m2 h2 r2 => q a ws M2 H2 (g1.trans g2) (Same.free g1.h n2) m2 h2 r2⟩
theorem ev_callX {W : WX} {x : Str} (h : EvA tA r ds) (hR : R ds (.exc x)) : EvX K W (tCallS (spD K R) (WE W) tA) r x := fun M0 H0 σ M H Rp q Q =>
  h M0 H0 σ M H Rp _ fun vs M1 H1 g1 r1 => ⟨M1, ds, .exc x, g1.s, r1, hR, fun M2 H2 g2 => q M2 H2 (g1.trans g2)⟩
end
/-- a def that can be called: where it stands, its promise, the level -/
structure Cal (P : Program) (w : World) (K : PySem.W.Frag) (mg : Str → Option Value) (base : Heap) (x : Str) (k : Nat) (R : Con) : Prop where
  ex : ∃ f fd ps, FnOk P w K mg base (L2.CX P w) k f fd ps (spD K R) ∧ mg x = some (.ref f) ∧ PySem.W.keepIn K (.ref f) = true ∧ Binds K fd ps []
section
variable {X : Cx} {x : Str} {k j : Nat} {R : Con} {p pos : Pos} {e : Expr} {es : List Expr} {t : TA}
theorem passW0 {σ : L2.St} : PassesAt (L2.CX X.prog X.w) X σ (WE W0 σ) := fun pins H s e s' I h => passL pins σ H s e s' I h
theorem pe_callW {W : WX} (C : Cal X.prog X.w X.K X.mg X.base x k R) (hr : Room j X.A) (hj : k ≤ j) (hx : ∀ σ, PassesAt (L2.CX X.prog X.w) X σ (WE W σ)) (ha : PA X (e :: es) t) (hg : Gl X x := by rfl) (hdb : (x == ("__debug__" : Str)) = false := by decide)
    (he : starEach (e :: es) X.env = (false, eval e X.env) :: starEach es X.env := by rfl) (hpl : (backTo pos (starEach es X.env)).any (·.1) = false := by rfl) :
    PE X (.Call (.Name x p) (e :: es) [] pos) (tCallS (spD X.K R) (WE W) t) := by
  obtain ⟨f, fd, ps, F, hm, hk, hb⟩ := C.ex
  exact pe_callS F (hr.mono hj) hg hm hk hb hx ha hdb he hpl
theorem pe_callD (C : Cal X.prog X.w X.K X.mg X.base x k R) (hr : Room j X.A) (hj : k ≤ j) (ha : PA X (e :: es) t) (hg : Gl X x := by rfl) (hdb : (x == ("__debug__" : Str)) = false := by decide)
    (he : starEach (e :: es) X.env = (false, eval e X.env) :: starEach es X.env := by rfl) (hpl : (backTo pos (starEach es X.env)).any (·.1) = false := by rfl) :
    PE X (.Call (.Name x p) (e :: es) [] pos) (tCallS (spD X.K R) (WE W0) t) := pe_callW C hr hj (fun _ => passW0) ha hg hdb he hpl
theorem pe_callX {W : WX} (tk : Takes X W) (C : Cal X.prog X.w X.K X.mg X.base x k R) (hr : Room j X.A) (hj : k ≤ j) (ha : PA X (e :: es) t) (hg : Gl X x := by rfl) (hdb : (x == ("__debug__" : Str)) = false := by decide)
    (he : starEach (e :: es) X.env = (false, eval e X.env) :: starEach es X.env := by rfl) (hpl : (backTo pos (starEach es X.env)).any (·.1) = false := by rfl) :
    PE X (.Call (.Name x p) (e :: es) [] pos) (tCallS (spD X.K R) (WE W) t) := pe_callW C hr hj (fun σ => passAt tk σ) ha hg hdb he hpl
end

/-! ### defs -/
def ro (N : List Str) (ds : List PyData) : Ro := ds.map .dat ++ List.replicate (N.length - ds.length) .no
theorem rep_start {N : List Str} {M H : Hp} {vs : List V} {ds : List PyData} (s : Same M H) (h : RpA M vs ds) : Rep M H (ro N ds) (L2.start N vs) M H := by
  have hl := h.length
  have nd : ∀ (i : Nat) x, (ro N ds)[i]? = some x → x ≠ .no → ∃ d, ds[i]? = some d ∧ x = .dat d := fun i x e hn => by
    unfold ro at e
    by_cases hi : i < ds.length
    · rw [List.getElem?_append_left (by rw [List.length_map]; exact hi), List.getElem?_map, List.getElem?_eq_getElem hi] at e
      exact ⟨_, List.getElem?_eq_getElem hi, (Option.some.inj e).symm⟩
    · rw [List.getElem?_append_right (by rw [List.length_map]; omega), List.getElem?_replicate] at e
      split at e
      · exact absurd (Option.some.inj e).symm hn
      · cases e
  refine ⟨Grow.refl s, ?_, fun i d e => ?_, fun i es e => ?_, fun i j es fs a e _ _ _ => ?_, fun i v m e => ?_⟩
  · unfold L2.start ro
    simp [hl]
  · obtain ⟨d', h1, h2⟩ := nd i _ e (fun z => by cases z)
    cases h2
    obtain ⟨v, h3, h4⟩ := h.get h1
    refine ⟨v, ?_, h4⟩
    unfold L2.start
    have hi : i < vs.length := (List.getElem?_eq_some_iff.mp h3).1
    rw [List.getElem?_append_left (by rw [List.length_map]; exact hi), List.getElem?_map, h3] <;> rfl
  · obtain ⟨d', _, h2⟩ := nd i _ e (fun z => by cases z)
    cases h2
  · obtain ⟨d', _, h2⟩ := nd i _ e (fun z => by cases z)
    cases h2
  · obtain ⟨d', _, h2⟩ := nd i _ e (fun z => by cases z)
    cases h2
/-- a def's wish -/
abbrev WD (E : XK) : WX := fun cls d _ H => E cls d H
def Bd (K : PySem.W.Frag) (E : XK) (t : TS) (r : Ro) : Out → Prop
  | .ret d => ExS K (WD E) t r (.ret d) ∨ (d = .none ∧ ∃ r', ExS K (WD E) t r (.nx r'))
  | .new ds => ExS K (WD E) t r (.new ds)
  | .exc x => ∃ r', ExS K (WD E) t r (.exc x r')
theorem bd_ret {K : PySem.W.Frag} {E : XK} {t : TS} {r : Ro} {d : PyData} (h : ExS K (WD E) t r (.ret d)) : Bd K E t r (.ret d) := .inl h
theorem bd_none {K : PySem.W.Frag} {E : XK} {t : TS} {r r' : Ro} (h : ExS K (WD E) t r (.nx r')) : Bd K E t r (.ret .none) := .inr ⟨rfl, r', h⟩
theorem bd_exc {K : PySem.W.Frag} {E : XK} {t : TS} {r r' : Ro} {x : Str} (h : ExS K (WD E) t r (.exc x r')) : Bd K E t r (.exc x) := ⟨r', h⟩
theorem bd_new {K : PySem.W.Frag} {E : XK} {t : TS} {r : Ro} {ds : List PyData} (h : ExS K (WD E) t r (.new ds)) : Bd K E t r (.new ds) := h
theorem Bd.run {K : PySem.W.Frag} {E : XK} {t : TS} {N : List Str} {ds : List PyData} {o : Out} (b : Bd K E t (ro N ds) o) {M H : Hp} {vs : List V} {Q : VK} (s : Same M H) (h : RpA M vs ds) (q : OutP K M H Q E o) :
    t { nx := fun _ H' => Q .non H', rt := Q } (L2.start N vs) H := by
  have R := rep_start (N := N) s h
  cases o with
  | ret d =>
    rcases b with b | ⟨rfl, r', b⟩
    · exact b M H _ _ M H R q
    · exact b M H _ _ M H R fun σ' M' H' s' R' => q .non M' H' R'.g .non
  | new es => exact b M H _ _ M H R q
  | exc x =>
    obtain ⟨r', b⟩ := b
    exact b M H _ _ M H R fun σ' M' H' s' R' => q M' H' R'.g
section
variable {P : Program} {w : World} {K : PySem.W.Frag} {mg : Str → Option Value} {base : Heap}
/-- THE RULE for a def -/
theorem cal_of {g n : Str} {st : Stmt} {N ps : List Str} {k : Nat} {R : Con} (F : ∃ f fd, FunD K n n (defArgs st) (defBody st) (defScope st) [] [] f fd ∧ mg g = some (.ref f)) (S : FnScope N ps (defScope st)) (len : ∀ ds o, R ds o → ds.length = ps.length)
    (hb : ∀ (kV doc pm : Value) (an : Option Addr) (cdv ct : Value) (us : List Value), us.length = ps.length → bindArgs (PySem.W.fnOf n n (defArgs st) (defBody st) (defScope st) .none kV doc pm an cdv ct) ⟨us, []⟩ = pure (ps.zip us))
    (body : ∀ (f : Addr) (cdv : Value) (A : Around) (outer : List Env) (s : Shared) (H : Hp) (E : XK), Room k (A.deeper (envOfC n (defScope st) s.heap.objs.size f cdv)) →
      ∃ t, PSs (cxOf (L2.CX P w) P w K mg base N n (defScope st) f cdv A outer s H E) (defBody st) t ∧ ∀ ds o, R ds o → Bd K E t (ro N ds) o) : Cal P w K mg base g (k + 1) R := by
  obtain ⟨f, fd, F, hm⟩ := F
  refine ⟨f, fd, ps, ?_, hm, F.kp, F.bindsN hb⟩
  refine F.ok S (fun vs H Q E h => ?_) fun cdv A outer s H vs Q E hr h => ?_
  · obtain ⟨M, ds, o, _, r, hR, _⟩ := h
    exact r.length.trans (len ds o hR)
  · obtain ⟨M, ds, o, s1, r, hR, q⟩ := h
    obtain ⟨t, ht, hbd⟩ := body f cdv A outer s H E hr
    exact ⟨t, ht, (hbd ds o hR).run s1 r q⟩
end
end Ck

/-! The data layer: built-in functions, methods, enumerate of a tuple, what the top holds. -/
namespace Ck
open PySem PySem.Spec PyProof.Rows L2

/-! ### built-in functions by short readings -/
def cLen (K : PySem.W.Frag) : List V → Hp → VK → Prop := fun xs H Q => ∃ x n, xs = [x] ∧ LenV K x H n ∧ Q (.int n) H
def cAbs : List V → Hp → VK → Prop := fun xs H Q => ∃ i, xs = [.int i] ∧ Q (.int (if i < 0 then -i else i)) H
def cInt : List V → Hp → VK → Prop := fun xs H Q => (∃ i, xs = [.int i] ∧ Q (.int i) H) ∨ ∃ k, xs = [.bl k] ∧ Q (.int (if k then 1 else 0)) H
def cStr : List V → Hp → VK → Prop := fun xs H Q => ∃ i : Int, xs = [.int i] ∧ i.natAbs.log2 < 1920 ∧ Q (.str (toString i)) H
def cOrd : List V → Hp → VK → Prop := fun xs H Q => ∃ x, xs = [.str x] ∧ x.length = 1 ∧ Q (.int (x.cps.getD 0 0 : Nat)) H
def cLst (K : PySem.W.Frag) : List V → Hp → VK → Prop := fun xs H Q => ∃ p ys, xs = [.ref p] ∧ (SqL K H p ys ∨ SqT K H p ys) ∧ ∀ l, H l = none → Q (.ref l) (upd H l (.lst ys))
def cTup (K : PySem.W.Frag) : List V → Hp → VK → Prop := fun xs H Q => ∃ p ys, xs = [.ref p] ∧ ((SqL K H p ys ∧ ∀ l, H l = none → Q (.ref l) (upd H l (.tup ys))) ∨ (SqT K H p ys ∧ Q (.ref p) H))
def rSign : R2 := fun x y H Q => ∃ (c : Nat) (z : Str), x = .str ⟨#[c]⟩ ∧ y = .str z ∧ Q (.bl (decide (c ∈ z.cps.toList))) H
section
variable {X : Cx}
theorem k_len : CallR X (.builtin "len") (cLen X.K) := call_len
theorem k_abs : CallR X (.builtin "abs") cAbs := call_abs
theorem k_int : CallR X (.type "int") cInt := call_int1
theorem k_str : CallR X (.type "str") cStr := call_str_int
theorem k_ord : CallR X (.builtin "ord") cOrd := call_ord
theorem k_list : CallR X (.type "list") (cLst X.K) := call_list_of
theorem k_tuple : CallR X (.type "tuple") (cTup X.K) := call_tuple_of
theorem o_addS : OpR X (binaryOp .Add) rAddS := op_add_str
theorem o_isN : OpR X (compareOp .Is) rIsN := op_isN
theorem o_notN : OpR X (compareOp .IsNot) rNotN := op_notN
theorem o_sign : OpR X (compareOp .In) rSign := op_in_sign
end
theorem b_len : bootBuiltins "len" = some (.builtin "len") := by decide +kernel
theorem b_all : bootBuiltins "all" = some (.builtin "all") := by decide +kernel
theorem b_sum : bootBuiltins "sum" = some (.builtin "sum") := by decide +kernel
theorem b_abs : bootBuiltins "abs" = some (.builtin "abs") := by decide +kernel
theorem b_ord : bootBuiltins "ord" = some (.builtin "ord") := by decide +kernel
theorem b_isinstance : bootBuiltins "isinstance" = some (.builtin "isinstance") := by decide +kernel
theorem b_int : bootBuiltins "int" = some (.type "int") := by decide +kernel
theorem b_str : bootBuiltins "str" = some (.type "str") := by decide +kernel
theorem b_list : bootBuiltins "list" = some (.type "list") := by decide +kernel
theorem b_tuple : bootBuiltins "tuple" = some (.type "tuple") := by decide +kernel

section
variable {r : Ro} {te ta to : TE} {tA : TA} {x y z d : PyData} {ds es : List PyData} {K : PySem.W.Frag}
theorem cb_lenL : CbD (cLen K) [.list ds] (.int ds.length) := fun M H vs s h Q q => by
  cases h with
  | cons p t =>
    cases t
    obtain ⟨a, xs, rfl, hA, ra⟩ := p.listOf
    exact ⟨.ref a, xs.length, rfl, .inl ⟨xs, SqL.of (s _ _ hA), rfl⟩, by rw [ra.length]; exact q _ M H (Grow.refl s) (.int _)⟩
theorem cb_lenT : CbD (cLen K) [.tuple ds] (.int ds.length) := fun M H vs s h Q q => by
  cases h with
  | cons p t =>
    cases t
    obtain ⟨a, xs, rfl, hA, ra⟩ := p.tupOf
    exact ⟨.ref a, xs.length, rfl, .inr ⟨xs, SqT.of (s _ _ hA), rfl⟩, by rw [ra.length]; exact q _ M H (Grow.refl s) (.int _)⟩
theorem cb_lenS {w : Str} (hw : w.length ≤ 16000000) : CbD (cLen K) [.str w] (.int w.length) := fun M H vs s h Q q => by
  cases h with
  | cons p t =>
    cases t
    cases p
    exact ⟨.str w, w.length, rfl, ⟨Nat.le_trans hw (by decide), rfl⟩, q _ M H (Grow.refl s) (.int _)⟩
theorem cb_abs {i : Int} : CbD cAbs [.int i] (.int (if i < 0 then -i else i)) := fun M H vs s h Q q => by
  cases h with
  | cons p t =>
    cases t
    cases p
    exact ⟨i, rfl, q _ M H (Grow.refl s) (.int _)⟩
theorem cb_int {i : Int} : CbD cInt [.int i] (.int i) := fun M H vs s h Q q => by
  cases h with
  | cons p t =>
    cases t
    cases p
    exact .inl ⟨i, rfl, q _ M H (Grow.refl s) (.int _)⟩
theorem cb_intB {b : Bool} : CbD cInt [.bool b] (.int (if b then 1 else 0)) := fun M H vs s h Q q => by
  cases h with
  | cons p t =>
    cases t
    cases p
    exact .inr ⟨b, rfl, q _ M H (Grow.refl s) (.int _)⟩
theorem cb_str {i : Int} (h : i.natAbs < 2 ^ 64) : CbD cStr [.int i] (.str (toString i)) := fun M H vs s hv Q q => by
  cases hv with
  | cons p t =>
    cases t
    cases p
    refine ⟨i, rfl, ?_, q _ M H (Grow.refl s) (.str _)⟩
    by_cases h0 : i.natAbs = 0
    · rw [h0]
      decide
    · have : i.natAbs.log2 < 64 := (Nat.log2_lt h0).mpr h
      omega
theorem cb_ord {c : Nat} : CbD cOrd [.str ⟨#[c]⟩] (.int (c : Nat)) := fun M H vs s h Q q => by
  cases h with
  | cons p t =>
    cases t
    cases p
    exact ⟨_, rfl, rfl, q _ M H (Grow.refl s) (.int _)⟩
theorem cb_all {bs : List Bool} : CbD (rAll K) [.list (bs.map .bool)] (.bool (bs.all id)) := fun M H vs s h Q q => by
  cases h with
  | cons p t =>
    cases t
    obtain ⟨a, xs, rfl, hA, ra⟩ := p.listOf
    rw [ra.bools] at hA
    exact ⟨a, bs, rfl, SqL.of (s _ _ hA), q _ M H (Grow.refl s) (.bl _)⟩
theorem cb_sum {ns : List Int} : CbD (rSum K) [.list (ns.map .int)] (.int ns.sum) := fun M H vs s h Q q => by
  cases h with
  | cons p t =>
    cases t
    obtain ⟨a, xs, rfl, hA, ra⟩ := p.listOf
    rw [ra.ints] at hA
    exact ⟨a, ns, rfl, SqL.of (s _ _ hA), q _ M H (Grow.refl s) (.int _)⟩
theorem co_listL : CbO (cLst K) [.list ds] ds := fun M H vs s h Q q => by
  cases h with
  | cons p t =>
    cases t
    obtain ⟨a, xs, rfl, hA, ra⟩ := p.listOf
    exact ⟨a, xs, rfl, .inl (SqL.of (s _ _ hA)), fun l hl => q l xs M _ ((Grow.refl s).newOwn hl) hl (none_of_same s hl) upd_same ra⟩
theorem co_listT : CbO (cLst K) [.tuple ds] ds := fun M H vs s h Q q => by
  cases h with
  | cons p t =>
    cases t
    obtain ⟨a, xs, rfl, hA, ra⟩ := p.tupOf
    exact ⟨a, xs, rfl, .inr (SqT.of (s _ _ hA)), fun l hl => q l xs M _ ((Grow.refl s).newOwn hl) hl (none_of_same s hl) upd_same ra⟩
theorem cb_tupL : CbD (cTup K) [.list ds] (.tuple ds) := fun M H vs s h Q q => by
  cases h with
  | cons p t =>
    cases t
    obtain ⟨a, xs, rfl, hA, ra⟩ := p.listOf
    exact ⟨a, xs, rfl, .inl ⟨SqL.of (s _ _ hA), fun l hl => q _ _ _ ((Grow.refl s).new hl) (.tup upd_same (ra.up (same_upd (none_of_same s hl))))⟩⟩
theorem cb_tupT : CbD (cTup K) [.tuple ds] (.tuple ds) := fun M H vs s h Q q => by
  cases h with
  | cons p t =>
    cases t
    obtain ⟨a, xs, rfl, hA, ra⟩ := p.tupOf
    exact ⟨a, xs, rfl, .inr ⟨SqT.of (s _ _ hA), q _ M H (Grow.refl s) (.tup hA ra)⟩⟩
theorem od_sign {c : Nat} {w : Str} : OpD rSign (.str ⟨#[c]⟩) (.str w) (.bool (decide (c ∈ w.cps.toList))) := fun M H v u s rv ru Q q => by
  cases rv
  cases ru
  exact ⟨c, w, rfl, rfl, q _ M H (Grow.refl s) (.bl _)⟩
/-- isinstance(x, tuple), x a tuple -/
theorem ev_isTup (h : EvD te r (.tuple ds)) : EvD (tCB RZ.rIsTy (tCons te (tCons (tC (.ty "tuple")) tNil))) r (.bool true) := fun M0 H0 σ M H R Q q =>
  h M0 H0 σ M H R _ fun v M1 H1 g1 r1 => by
    obtain ⟨a, xs, rfl, hA, ra⟩ := r1.tupOf
    exact ⟨.ref a, "tuple", rfl, .tup (g1.s _ _ hA), q _ M1 H1 g1 (.bl _)⟩
/-- sep.join(xs) -/
def rJoin (K : PySem.W.Frag) : V → List V → Hp → VK → Prop := fun x xs H Q => ∃ a p, ∃ ys : List Str, x = .str a ∧ xs = [.ref p] ∧ (SqL K H p (ys.map V.str) ∨ SqT K H p (ys.map V.str)) ∧ (ys.map (·.length)).sum + ys.length * a.length ≤ 16777216 ∧ Q (.str (Txt.join a ys)) H
theorem m_join {X : Cx} : MtR X "str.join" (rJoin X.K) := mt_join
theorem ev_join {a : Str} {ys : List Str} (ho : EvD to r (.str a)) (he : EvD te r (.list (ys.map .str))) (hz : (ys.map (·.length)).sum + ys.length * a.length ≤ 16777216) : EvD (tM1 (rJoin K) to te) r (.str (Txt.join a ys)) := fun M0 H0 σ M H R Q q =>
  ho M0 H0 σ M H R _ fun v M1 H1 g1 r1 => by
    cases r1
    refine ⟨⟨a, rfl⟩, he M0 H0 σ M1 H1 (R.grow g1) _ fun w M2 H2 g2 r2 => ?_⟩
    obtain ⟨p, xs, rfl, hA, ra⟩ := r2.listOf
    rw [ra.strs] at hA
    exact ⟨a, p, ys, rfl, rfl, .inl (SqL.of (g2.s _ _ hA)), hz, q _ M2 H2 (g1.trans g2) (.str _)⟩
/-- xs.index(y) -/
theorem ev_index {j : Nat} (ho : EvD to r (.list ds)) (he : EvD te r d) (sl : Shp (.list ds)) (sd : Shp d) (hz : ds[j]? = some z) (hzd : PyData.eqv z d = true) (hn : ∀ (m : Nat) z', m < j → ds[m]? = some z' → PyData.eqv z' d = false) :
    EvD (tBM K "list" (rIndexD K) to (tCons te tNil)) r (.int (j : Nat)) := fun M0 H0 σ M H R Q q =>
  ho M0 H0 σ M H R _ fun v M1 H1 g1 r1 => by
    obtain ⟨a, xs, rfl, hA, ra⟩ := r1.listOf
    refine ⟨.inl ⟨rfl, _, SqL.of (g1.s _ _ hA)⟩, he M0 H0 σ M1 H1 (R.grow g1) _ fun w M2 H2 g2 r2 => ?_⟩
    exact ⟨a, w, d, ds, j, z, rfl, rfl, Rp.dp _ _ ((Rp.lst hA ra).up (g2.m.trans g2.s)), Rp.dp _ _ (r2.up g2.s), sl, sd, hz, hzd, hn, q _ M2 H2 (g1.trans g2) (.int _)⟩
end

/-! ### xs.extend(a tuple) -/
open PySem.Sem (wp) in
open PySem.AutoSeq1 (wpAny_loadPart') in
theorem extend_tup (l : Addr) (items : Array Value) (n : Nat) (b : Addr) (items2 : Array Value) (n2 : Nat) (dd : Option Addr) (sl : Array (Option Value)) (hs0 : ¬(!items.isEmpty && Builtin.List.listTooLong (items.size + items2.size)) = true) (hs1 : items.size ≤ sizeLine) (hs2 : items.size + items2.size ≤ sizeLine + 1) :
    Meets (Builtin.«list.extend» ⟨[.ref l, .ref b], []⟩) (fun _ R s => s.heap.get? l = some { cls := .type "list", dict := none, data := .seq items n, slots := #[] } ∧ s.heap.get? b = some { cls := .type "tuple", dict := dd, data := .seq items2 n2, slots := sl } ∧ R (.ok (.ret Value.none)) { s with heap := s.heap.update l (Obj.mapSeq fun x => x ++ items2), toks := s.toks }) :=
  .of_wp fun prog w A R s h => by
    obtain ⟨hp, g, d, tk, os⟩ := s; obtain ⟨hl, hb, h⟩ := h; have f1 := PySem.AutoSeq1.idx_int; have f2 := PySem.AutoSeq1.sub_tuple_tuple; have f3 := PySem.AutoSeq1.sub_list_list; have f4 := PySem.AutoSeq1.sub_tuple_list; have f5 := PySem.AutoSeq1.sub_list_tuple;
    have hz' : (items ++ items2).size ≤ sizeLine + 1 := by rw [Array.size_append]; exact hs2
    wp_walk using (wpAny_updateSeq hl rfl (hz := hs1) (_hz' := hz')), wpAny_loadPart' hl, wpAny_loadPart' hb; exact ⟨_, rfl, h⟩
section
variable {X : Cx}
theorem mt_extendT : MtM X "list.extend" (rExtT X.K) := by
  intro pins s σ H x vs v us Q I rx rv h
  obtain ⟨l, b, xs, zs, rfl, rfl, hH, hB, hz, q⟩ := h
  cases rx
  obtain ⟨u, rfl, ru⟩ := rv.one
  cases ru
  obtain ⟨z, its, n, r, hl, e⟩ := I.lstM hH
  obtain ⟨its2, r2, ⟨⟨cls, dd, data, sl⟩, ho, hc, n2, hd⟩, z2⟩ := I.tuple (SqT.of hB)
  simp only at hc hd
  subst hc hd
  have hl2 := r2.length
  have x0 := I.hok b _ hB
  have hsz : its.toArray.size + its2.toArray.size ≤ sizeLine := by rw [List.size_toArray, List.size_toArray]; omega
  have hlong : ¬ (!its.toArray.isEmpty && Builtin.List.listTooLong (its.toArray.size + its2.toArray.size)) = true := by
    rw [notLongL hsz, Bool.and_false]
    exact Bool.false_ne_true
  refine call_meets PySem.F.slot_list_extend ⟨_, e, rfl⟩ PySem.F.entry_list_extend (PySem.F.args_list_extend_2 _ _)
    (extend_tup l its.toArray n b its2.toArray n2 dd sl hlong (by rw [List.size_toArray]; omega) (by omega)) ⟨e, ho, ?_⟩
  refine ⟨.non, _, I.lset (its' := its ++ its2) hH e (by simp) (r.append r2) ?_, rfl, q⟩
  rw [List.length_append]
  omega
end
end Ck

/-! enumerate of a tuple; what the top holds; raise. -/
namespace Ck
open PySem PySem.Spec PyProof.Rows L2

open PySem.Sem (wp) in
open PySem.AutoSeq1 (wpAny_loadPart') in
theorem meets_enumerate_newT (l : Addr) (items : Array Value) :
    Meets (Builtin.«enumerate.__new__» ⟨[.type "enumerate", .ref l], []⟩) (fun _ R s => s.heap.IsTuple l items ∧
      R (.ok (.ret (.ref (s.heap.push { cls := .type "tuple_iterator", data := .fields #[.ref l, .int 0 0] }).objs.size)))
        { s with heap := (s.heap.push { cls := .type "tuple_iterator", data := .fields #[.ref l, .int 0 0] }).push { cls := .type "enumerate", data := .fields #[.none, .bool false, .ref s.heap.objs.size, rawInt 0, .none, .none] } }) :=
  .of_wp fun prog w A R s h => by
    obtain ⟨hp, g, d, tk, os⟩ := s; obtain ⟨hl, h⟩ := h
    have hsub := sub_enumerate
    have hL : Heap.IsTuple (Shared.heap ⟨hp, g, d, tk, os⟩) l items := hl
    wp_walk using wpAny_pyIter_tuple hL
    refine wpAny_stack_any fun st => wpAny_pure ?_
    split
    · rename_i c _ _ _ _ _
      cases (c == Value.type "enumerate")
      · wp_walk using wpAny_pyIter_tuple hL
        exact ⟨_, rfl, h⟩
      · wp_walk using wpAny_pyIter_tuple hL
        exact ⟨_, rfl, h⟩
    · wp_walk using wpAny_pyIter_tuple hL
      exact ⟨_, rfl, h⟩
section
variable {prog : Program} {w : World} {A : Around} {E : Value → Shared → Prop} {s : Shared}
theorem call_enumerate_tup {l : Addr} {items : Array Value} {Q : Value → Shared → Prop} (hL : s.heap.IsTuple l items)
    (h : ∀ h', IsEnum h' (s.heap.objs.size + 1) s.heap.objs.size 0 .none → h'.IsTupleIter s.heap.objs.size l 0 → h'.objs.size = s.heap.objs.size + 2 →
      (∀ b o, s.heap.get? b = some o → h'.get? b = some o) → Q (.ref (s.heap.objs.size + 1)) { s with heap := h' }) :
    wpAny (model prog w) A (call (.type "enumerate") [.ref l]) Q E s := by
  refine callType_new PySem.F.called_enumerate (by decide) (PySem.F.typeCall_enumerate_1 _) (PySem.F.newCall_enumerate_1 _) (fun obj => PySem.F.args_object_init_2 obj _) PySem.F.entry_enumerate_new
    (meets_enumerate_newT l items) ⟨hL, ?_⟩
  have hz : (s.heap.push { cls := .type "tuple_iterator", data := .fields #[.ref l, .int 0 0] }).objs.size = s.heap.objs.size + 1 := Heap.size_push ..
  show _ ∧ _
  rw [hz]
  have he : IsEnum ((s.heap.push { cls := .type "tuple_iterator", data := .fields #[.ref l, .int 0 0] }).push
      { cls := .type "enumerate", data := .fields #[.none, .bool false, .ref s.heap.objs.size, rawInt 0, .none, .none] }) (s.heap.objs.size + 1) s.heap.objs.size 0 .none := by
    have := Heap.get?_push_size (s.heap.push { cls := .type "tuple_iterator", data := .fields #[.ref l, .int 0 0] })
      (o := { cls := .type "enumerate", data := .fields #[.none, .bool false, .ref s.heap.objs.size, rawInt 0, .none, .none] }) rfl
    rw [hz] at this; exact this
  refine ⟨⟨_, he, rfl⟩, h _ he ⟨_, Heap.get?_push_of_some _ (Heap.get?_push_size _ rfl), rfl, rfl⟩ (by rw [Heap.size_push, hz]) fun b o x => Heap.get?_push_of_some _ (Heap.get?_push_of_some _ x)⟩
end
def IteT (K : PySem.W.Frag) (a : Addr) : It :=
  ⟨fun i H => ∃ (xs : List V) (x : V), SqT K H a xs ∧ xs[i]? = some x, fun i H v H' => ∃ T x, v = .ref T ∧ H T = none ∧ H' = upd H T (.tup [.int (i : Nat), x]) ∧ ∀ xs, SqT K H a xs → xs[i]? = some x, fun i H => ∃ xs : List V, SqT K H a xs ∧ xs.length ≤ i⟩
theorem turn_enumT {P : Program} {w : World} {K : PySem.W.Frag} {elts : List Expr} {kk : Nat} {tpos : Pos} (a e it : Addr) (hae : a ≠ it) :
    Turn P w K (.Tuple elts kk tpos) (IteT K a) [e, it] e (fun i h => (∃ old, IsEnum h e it ((i : Nat) : Int) old) ∧ h.IsTupleIter it a i ∧ e ≠ it ∧ e ≠ a) where
  mem := by simp
  obj := fun i h st b hb => by
    obtain ⟨⟨old, he⟩, ⟨o, ho, hc, hd⟩, _⟩ := st
    have e' : b = e ∨ b = it := by simpa using hb
    rcases e' with z | z
    · rw [z]; exact ⟨_, he, fun v q => nomatch q⟩
    · rw [z]; exact ⟨o, ho, fun v q => by rw [hd] at q; cases q⟩
  keep := fun i h h' st k => let ⟨⟨old, he⟩, hi, hne⟩ := st; ⟨⟨old, k e (by simp) _ he⟩, hi.at fun o q => k it (by simp) o q, hne⟩
  item := by
    intro X hP hw hK hc i pins s σ H E I hf st hg
    subst hP hw hK
    obtain ⟨⟨old, he⟩, hit, hne, hnea⟩ := st
    obtain ⟨xs, x, hq, hx⟩ := hg
    obtain ⟨its, rv, p, hz⟩ := I.tuple hq
    obtain ⟨u, hu, ru⟩ := rv.get hx
    have hel : e < s.heap.objs.size := Heap.lt_size he
    have hil : it < s.heap.objs.size := by obtain ⟨_, q, _⟩ := hit; exact Heap.lt_size q
    have hi : i < its.toArray.size := by
      have hl := rv.length
      have := (List.getElem?_eq_some_iff.mp hx).1
      rw [List.size_toArray]
      omega
    have D := Draws.tuple (prog := X.prog) (w := X.w) (A := X.A.in1) (I.ok.hd hc) it a hae its.toArray
    refine wpAny_pyNext_enum_itemD D he ⟨hit, p⟩ hi hne (by simp [hne, hnea]) fun x' h' tk hPx ho hst' hT hsz hk => ?_
    have hxu : x' = u := by
      have e1 : its.toArray[i]? = some u := by simpa using hu
      rw [e1] at hPx
      exact (Option.some.inj hPx).symm
    subst hxu
    refine ⟨_, rfl, wpAny_letOwnedTupleGo_enum (s := { s with heap := h', toks := tk + 1 }) ho fun h'' he' sb => ?_⟩
    have hT2 : h''.get? s.heap.objs.size = some { cls := .type "tuple", data := .seq #[.int i tk, x'] } := (sb.2 _ (Nat.ne_of_gt hel)).trans hT
    have new : ObjOk X.prog X.w (upd H s.heap.objs.size (.tup [.int (i : Nat), x])) h'' s.heap.objs.size (.tup [.int (i : Nat), x]) :=
      ⟨by show 2 ≤ sizeLine; decide, [.int i tk, x'], .cons ⟨_, rfl⟩ (.cons ru .nil), ⟨_, hT2, rfl, _, rfl⟩⟩
    have I1 : Inv X pins σ (upd H s.heap.objs.size (.tup [.int (i : Nat), x])) { s with heap := h'', toks := tk + 1 } :=
      I.turnedNew (ch := [e, it]) (fun b ob hb q => (sb.2 b (fun z => hb (by simp [z]))).trans (hk b ob (fun z => hb (by simp [z])) (fun z => hb (by simp [z])) q)) hf (Nat.le_refl _) new
    refine ⟨.ref s.heap.objs.size, _, I1, rfl, ⟨_, x, rfl, I.hok.fresh (Nat.le_refl _), rfl, fun ys hy => by rw [I.tuple_inj hy hq]; exact hx⟩, ⟨⟨x', ?_⟩, hst'.1.at fun o q => (sb.2 it (Ne.symm hne)).trans q, hne, hnea⟩, fun b hb => ?_⟩
    · have e1 : ((i + 1 : Nat) : Int) = (i : Int) + 1 := by omega
      rw [e1]; exact he'
    · have hb' : b < s.heap.objs.size := by
        have e' : b = e ∨ b = it := by simpa using hb
        rcases e' with z | z
        · rw [z]; exact hel
        · rw [z]; exact hil
      rw [upd_ne (Nat.ne_of_lt hb')]
      exact (hf b hb).1
  done := by
    intro X hP hw hK hc i pins s σ H E I hf st hg
    subst hP hw hK
    obtain ⟨⟨old, he⟩, hit, hne, hnea⟩ := st
    obtain ⟨xs, hq, hx⟩ := hg
    obtain ⟨its, rv, p, hz⟩ := I.tuple hq
    obtain ⟨f0, f1, f2, f3, f4, f5⟩ := hf it (by simp)
    have hl := rv.length
    have hT : s.TypeIs (.ref e) "enumerate" := ⟨_, he, rfl⟩
    unfold pyNext
    refine wpAny_bind (wpAny_attempt (wpAny_callSpecial?_slot (name := Str.ofString "__next__") hT PySem.F.slot_enumerate_next
      (wpAny_call_entry PySem.F.slot_enumerate_next hT PySem.F.entry_enumerate_next ?_ (PySem.F.args_enumerate_next_1 _))))
    show wpAny _ _ (field (.ref e) 2 >>= _) _ _ _
    refine wpAny_bind (wpAny_field he rfl (x := .ref it) rfl ?_)
    refine wpAny_bind (wpAny_nextOf_tuple_end (I.ok.hd hc) hit p (by simp; omega) fun h' x he' hx' => ?_)
    obtain ⟨o, ho, hcl⟩ := hx'
    refine wpAny_bind (wpAny_isInstance (T := "StopIteration") (b := true) ⟨o, ho, hcl⟩ isSubtype_stop ?_)
    exact wpAny_pure ⟨rfl, I.turned (t' := s.toks) (fun b o hb q => he' b o hb q) f0 f1 f3 f4 f5⟩
  self := fun A i s Q E st h => let ⟨⟨_, he⟩, _⟩ := st; wpAny_pyIter_enum he h
def iEnumT (K : PySem.W.Frag) (ta : TA) : TI := fun σ H R => ta σ H fun vs H1 => ∃ a xs, vs = [.ref a] ∧ SqT K H1 a xs ∧ R (IteT K a) H1
theorem pi_enumT {X : Cx} {e : Expr} {ta : TA} {p pos tpos : Pos} {elts : List Expr} {kk : Nat} (hg : Gl X "enumerate") (hm : X.mg "enumerate" = none) (ha : PA X [e] ta) (hs : starEach [e] X.env = [(false, eval e X.env)] := by rfl) :
    PI X (.Tuple elts kk tpos) (.Call (.Name "enumerate" p) [e] [] pos) (iEnumT X.K ta) := by
  refine ⟨fun pins s σ H R I h => ?_⟩
  refine Call_ (ld_blt I hg hm boot_enumerate (PyProof.Rows.callWith_type1 (thn (ha.run pos pins s σ H _ I h) fun us s1 ⟨vs, H1, I1, r1, q1⟩ => ?_) hs rfl))
  obtain ⟨a, xs, ex, hq, q⟩ := q1
  subst ex
  cases r1 with
  | cons r rr =>
    cases rr
    cases r
    obtain ⟨its, rv, p', hz⟩ := I1.tuple hq
    have hal : a < s1.heap.objs.size := p'.lt
    refine call_enumerate_tup (show s1.heap.IsTuple a its.toArray from p') fun h' he hit hsz hk => wpAny_pyIter_enum he ?_
    have I2 : Inv X pins σ H1 { s1 with heap := h' } := I1.kept (t' := s1.toks) hk
    refine ⟨s1.heap.objs.size + 1, [s1.heap.objs.size + 1, s1.heap.objs.size], _, _, H1, rfl, I2, turn_enumT a (s1.heap.objs.size + 1) s1.heap.objs.size (Nat.ne_of_lt hal), ⟨⟨.none, he⟩, hit, Nat.succ_ne_self _, Nat.ne_of_gt (Nat.lt_succ_of_lt hal)⟩, fun b hb => ?_, q⟩
    have e' : b = s1.heap.objs.size + 1 ∨ b = s1.heap.objs.size := by simpa using hb
    have hle : s1.heap.objs.size ≤ b := by
      rcases e' with z | z
      · rw [z]; exact Nat.le_add_right _ _
      · rw [z]; exact Nat.le_refl _
    exact I1.fpOk hle (I1.hok.fresh hle)
def enumD (n : Nat) : List PyData → List PyData
  | [] => []
  | d :: ds => .tuple [.int (n : Nat), d] :: enumD (n + 1) ds
theorem enumD_length : ∀ (ds : List PyData) (n : Nat), (enumD n ds).length = ds.length
  | [], _ => rfl
  | _ :: ds, n => congrArg Nat.succ (enumD_length ds (n + 1))
theorem enumD_get : ∀ {ds : List PyData} {n i : Nat} {d : PyData}, (enumD n ds)[i]? = some d → ∃ x, ds[i]? = some x ∧ d = .tuple [.int ((n + i : Nat) : Int), x]
  | [], n, i, d, h => by simp [enumD] at h
  | x :: ds, n, 0, d, h => by
    simp [enumD] at h
    exact ⟨x, rfl, h.symm⟩
  | x :: ds, n, i + 1, d, h => by
    obtain ⟨y, h1, h2⟩ := enumD_get (ds := ds) (n := n + 1) (i := i) (d := d) (by simpa [enumD] using h)
    exact ⟨y, by simpa using h1, by rw [h2, show n + 1 + i = n + (i + 1) by omega]⟩
theorem wk_enumT {r : Ro} {tA : TA} {ds : List PyData} {K : PySem.W.Frag} (h : EvA tA r [.tuple ds]) : WkD (iEnumT K tA) r (enumD 0 ds) := fun M0 H0 σ M H R Rr q => h M0 H0 σ M H R _ fun vs M1 H1 g1 r1 => by
  cases r1 with
  | cons p b =>
    cases b
    obtain ⟨a, xs, rfl, hA, ra⟩ := p.tupOf
    refine ⟨a, xs, rfl, SqT.of (g1.s _ _ hA), q _ M1 H1 g1 ⟨fun i H' hi s => ?_, fun H' s => ⟨xs, SqT.of (s _ _ hA), by rw [enumD_length, ra.length]; exact Nat.le_refl _⟩, fun i d H' x H'' hd s y M2 s2 s3 => ?_⟩⟩
    · rw [enumD_length] at hi
      have h1 : i < xs.length := by rw [ra.length]; exact hi
      exact ⟨xs, xs[i], SqT.of (s _ _ hA), List.getElem?_eq_getElem h1⟩
    · obtain ⟨T, x', rfl, hT, eH, f1⟩ := y
      obtain ⟨dx, e1, rfl⟩ := enumD_get hd
      obtain ⟨v1, k1, k2⟩ := ra.get e1
      have f1 := f1 xs (SqT.of (s _ _ hA))
      rw [k1] at f1
      cases f1
      rw [Nat.zero_add]
      exact pair_new s3 hT (.int _) (k2.up s2) eH

/-! ### what the top holds -/
structure Tx (K : PySem.W.Frag) (mg : Str → Option Value) : Prop where
  fLen : mg "len" = none
  fAll : mg "all" = none
  fSum : mg "sum" = none
  fZip : mg "zip" = none
  fEnumerate : mg "enumerate" = none
  fRange : mg "range" = none
  fAbs : mg "abs" = none
  fInt : mg "int" = none
  fStr : mg "str" = none
  fTuple : mg "tuple" = none
  fList : mg "list" = none
  fOrd : mg "ord" = none
  fIsinstance : mg "isinstance" = none
  gMODULUS : ∃ t, mg "MODULUS" = some (.int 2147483647 t)
  gSIDES : ∃ t, mg "SIDES" = some (.int 1000000 t)
  gBASES : ∃ t, mg "BASES" = some (.int 5 t)
  gAGES : ∃ t, mg "AGES" = some (.int 5 t)
  gZONES : ∃ t, mg "ZONES" = some (.int 5 t)
  gGREATEST : ∃ t, mg "GREATEST" = some (.int 4 t)
  gMAX_GATE : ∃ t, mg "MAX_GATE" = some (.int 6 t)
  gMAX_MOMENT : ∃ t, mg "MAX_MOMENT" = some (.int 999999 t)
  gSMALL : ∃ t, mg "SMALL" = some (.str "abcdefghijklmnopqrstuvwxyz" t)
  gCE : mg "CloakError" = some (.ref (He.ga K "CloakError"))
  gNA : mg "NotAllowed" = some (.ref (He.ga K "NotAllowed"))
  gBP : mg "BadPaper" = some (.ref (He.ga K "BadPaper"))
  xNA : PySem.W.excIn K (He.ga K "NotAllowed") He.veBase "ValueError.__new__" = true ∧ PySem.W.keepIn K (.ref (He.ga K "NotAllowed")) = true ∧ PySem.W.subIn K (.ref (He.ga K "NotAllowed")) (.type "BaseException") = some true ∧ PySem.W.typeIn K (.ref (He.ga K "NotAllowed")) = some (.type "type")
  xBP : PySem.W.excIn K (He.ga K "BadPaper") He.veBase "ValueError.__new__" = true ∧ PySem.W.keepIn K (.ref (He.ga K "BadPaper")) = true ∧ PySem.W.subIn K (.ref (He.ga K "BadPaper")) (.type "BaseException") = some true ∧ PySem.W.typeIn K (.ref (He.ga K "BadPaper")) = some (.type "type")
  mNN : PySem.W.exmOne K (.ref (He.ga K "NotAllowed")) (.ref (He.ga K "NotAllowed")) = some true
  mNC : PySem.W.exmOne K (.ref (He.ga K "NotAllowed")) (.ref (He.ga K "CloakError")) = some true
  mBC : PySem.W.exmOne K (.ref (He.ga K "BadPaper")) (.ref (He.ga K "CloakError")) = some true
section
variable {X : Cx}
theorem pe_gint {x : Str} {i : Int} {pos : Pos} (h : ∃ t, X.mg x = some (.int i t)) (hg : Gl X x := by rfl) (hd : (x == ("__debug__" : Str)) = false := by decide) : PE X (.Name x pos) (tC (.int i)) := by
  obtain ⟨t, e⟩ := h
  exact pe_glob hg e ⟨t, rfl⟩ hd
theorem pe_gstr {x : Str} {i : Str} {pos : Pos} (h : ∃ t, X.mg x = some (.str i t)) (hg : Gl X x := by rfl) (hd : (x == ("__debug__" : Str)) = false := by decide) : PE X (.Name x pos) (tC (.str i)) := by
  obtain ⟨t, e⟩ := h
  exact pe_glob hg e ⟨t, rfl⟩ hd
def tRaise (K : PySem.W.Frag) (W : WX) (x : Str) : TS := fun _ σ H => (fun (_ : L2.St) (H : Hp) (Q : XK) => Q (.ref (He.ga K x)) none H) σ H fun cls d H' => W cls d σ H'
theorem ps_raiseNA {W : WX} {m : Str} {j : Nat} {p p2 pos pos2 : Pos} (T : Tx X.K X.mg) (hc : X.calm = true) (tk : Takes X W) (hg : Gl X "NotAllowed" := by rfl) : PS X (.Raise (some (.Call (.Name "NotAllowed" p) [.Constant (.str m) j p2] [] pos)) none pos2) (tRaise X.K W "NotAllowed") :=
  ps_raise hc tk (pmk_own PySem.F.excBase_ValueError T.xNA.1 T.gNA T.xNA.2.1 (raises_own T.xNA.2.2.1 T.xNA.2.2.2) hg)
theorem ps_raiseBP {W : WX} {m : Str} {j : Nat} {p p2 pos pos2 : Pos} (T : Tx X.K X.mg) (hc : X.calm = true) (tk : Takes X W) (hg : Gl X "BadPaper" := by rfl) : PS X (.Raise (some (.Call (.Name "BadPaper" p) [.Constant (.str m) j p2] [] pos)) none pos2) (tRaise X.K W "BadPaper") :=
  ps_raise hc tk (pmk_own PySem.F.excBase_ValueError T.xBP.1 T.gBP T.xBP.2.1 (raises_own T.xBP.2.2.1 T.xBP.2.2.2) hg)
end
theorem ex_tRaise {K : PySem.W.Frag} {W : WX} {x : Str} {r : Ro} : ExS K W (tRaise K W x) r (.exc x r) := ex_raise
end Ck

/-! short names of readings; a list or a tuple walked; try. -/
namespace Ck
open PySem PySem.Spec PyProof.Rows L2
abbrev aAdd : R2 := rI0 fun i j => .int (i + j)
abbrev aSub : R2 := rI0 fun i j => .int (i - j)
abbrev aMul : R2 := rI CMul fun i j => .int (i * j)
abbrev aMod : R2 := rI (fun _ j => 0 < j) fun i j => .int (i % j)
abbrev aDiv : R2 := rI CDiv fun i j => .int (i / j)
abbrev aPow : R2 := rI CPow fun i j => .int (i ^ j.toNat)
abbrev aLt : R2 := rI0 fun i j => .bl (decide (i < j))
abbrev aLe : R2 := rI0 fun i j => .bl (decide (i ≤ j))
abbrev aGt : R2 := rI0 fun i j => .bl (decide (j < i))
abbrev aGe : R2 := rI0 fun i j => .bl (decide (j ≤ i))
abbrev aNeg : V → Hp → VK → Prop := rU fun i => .int (-i)
theorem room65 {k : Nat} {A : Around} (r : Room k A) : A.units + 65 < cLine := by have := r.un; omega
def Dn (K : PySem.W.Frag) (mg : Str → Option Value) (g n : Str) (st : Stmt) : Prop := ∃ f fd, FunD K n n (defArgs st) (defBody st) (defScope st) [] [] f fd ∧ mg g = some (.ref f)

/-! ### a list or a tuple walked -/
def iSeq (K : PySem.W.Frag) (tl : TE) : TI := fun σ H R => tl σ H fun x H1 => ∃ a, x = .ref a ∧ (((∃ xs, SqL K H1 a xs) ∧ R (Itl K a) H1) ∨ ((∃ xs, SqT K H1 a xs) ∧ R (Itt K a) H1))
theorem pi_seq {X : Cx} {tg l : Expr} {tl : TE} (hl : PE X l tl) : PI X tg l (iSeq X.K tl) := by
  refine ⟨fun pins s σ H R I h => ?_⟩
  refine thn (hl.run pins s σ H _ I h) fun v s1 ⟨x, H1, I1, r1, q1⟩ => ?_
  obtain ⟨a, e, q⟩ := q1
  subst e
  cases r1
  rcases q with ⟨⟨xs, hq⟩, q⟩ | ⟨⟨xs, hq⟩, q⟩
  · obtain ⟨its, rv, p, hz⟩ := I1.list hq
    refine wpAny_pyIter_list p.isList ?_
    refine ⟨s1.heap.objs.size, [s1.heap.objs.size], _, _, H1, rfl, I1.kept (t' := s1.toks) fun b o e => Heap.get?_push_of_some _ e, turn_list a _, ⟨_, Heap.get?_push_size _ rfl, rfl, rfl⟩, fun b hb => ?_, q⟩
    have e : b = s1.heap.objs.size := by simpa using hb
    subst e
    exact I1.fpOk (Nat.le_refl _) (I1.hok.fresh (Nat.le_refl _))
  · obtain ⟨its, rv, p, hz⟩ := I1.tuple hq
    refine wpAny_pyIter_tuple (show s1.heap.IsTuple a its.toArray from p) ?_
    refine ⟨s1.heap.objs.size, [s1.heap.objs.size], _, _, H1, rfl, I1.kept (t' := s1.toks) fun b o e => Heap.get?_push_of_some _ e, turn_tuple a _, ⟨_, Heap.get?_push_size _ rfl, rfl, rfl⟩, fun b hb => ?_, q⟩
    have e : b = s1.heap.objs.size := by simpa using hb
    subst e
    exact I1.fpOk (Nat.le_refl _) (I1.hok.fresh (Nat.le_refl _))
section
variable {r : Ro} {te : TE} {ds : List PyData} {K : PySem.W.Frag}
theorem ws_list (h : EvD te r (.list ds)) : WkD (iSeq K te) r ds := fun M0 H0 σ M H R Rr q => h M0 H0 σ M H R _ fun v M1 H1 g1 r1 => by
  obtain ⟨a, xs, rfl, hA, ra⟩ := r1.listOf
  refine ⟨a, rfl, .inl ⟨⟨xs, SqL.of (g1.s _ _ hA)⟩, q _ M1 H1 g1 ⟨fun i H' hi s => ?_, fun H' s => ⟨xs, SqL.of (s _ _ hA), Nat.le_of_eq ra.length⟩, fun i d H' x H'' hd s y M2 s2 s3 => ?_⟩⟩⟩
  · have hl : i < xs.length := by rw [ra.length]; exact hi
    exact ⟨xs, xs[i], SqL.of (s _ _ hA), List.getElem?_eq_getElem hl⟩
  · obtain ⟨e, y⟩ := y
    subst e
    obtain ⟨v, h1, h2⟩ := ra.get hd
    have h3 := y xs (SqL.of (s _ _ hA))
    rw [h1] at h3
    cases h3
    exact ⟨M2, Grow.refl s3, h2.up s2⟩
theorem ws_tup (h : EvD te r (.tuple ds)) : WkD (iSeq K te) r ds := fun M0 H0 σ M H R Rr q => h M0 H0 σ M H R _ fun v M1 H1 g1 r1 => by
  obtain ⟨a, xs, rfl, hA, ra⟩ := r1.tupOf
  refine ⟨a, rfl, .inr ⟨⟨xs, SqT.of (g1.s _ _ hA)⟩, q _ M1 H1 g1 ⟨fun i H' hi s => ?_, fun H' s => ⟨xs, SqT.of (s _ _ hA), Nat.le_of_eq ra.length⟩, fun i d H' x H'' hd s y M2 s2 s3 => ?_⟩⟩⟩
  · have hl : i < xs.length := by rw [ra.length]; exact hi
    exact ⟨xs, xs[i], SqT.of (s _ _ hA), List.getElem?_eq_getElem hl⟩
  · obtain ⟨e, y⟩ := y
    subst e
    obtain ⟨v, h1, h2⟩ := ra.get hd
    have h3 := y xs (SqT.of (s _ _ hA))
    rw [h1] at h3
    cases h3
    exact ⟨M2, Grow.refl s3, h2.up s2⟩
end

/-! ### try .. except X: suite -/
def tTry (K : PySem.W.Frag) (c : Value) (tb : WX → TS) (ts : Addr → Value → Option Addr → TS) : TS := fun D σ H => tb (wOnly K c ts W0 D) D σ H
section
variable {K : PySem.W.Frag} {W : WX} {c : Value} {tb : WX → TS} {ts : Addr → Value → Option Addr → TS} {r r' : Ro} {o : Res}
/-- nothing is raised -/
theorem ex_tryOk (h : ∀ W', ExS K W' (tb W') r o) (ho : ∀ x r', o ≠ .exc x r') : ExS K W (tTry K c tb ts) r o := fun M0 H0 D σ M H R p => by
  refine h (wOnly K c ts W0 D) M0 H0 D σ M H R ?_
  cases o with
  | nx r' => exact p
  | ret d => exact p
  | new d => exact p
  | exc x r' => exact absurd rfl (ho x r')
/-- it is caught -/
theorem ex_tryX {x : Str} (h : ∀ W', ExS K W' (tb W') r (.exc x r')) (hc : PySem.W.exmOne K (.ref (He.ga K x)) c = some true) (hs : ∀ a, ExS K W (ts a (.ref (He.ga K x)) none) r' o) : ExS K W (tTry K c tb ts) r o := fun M0 H0 D σ M H R p => by
  refine h (wOnly K c ts W0 D) M0 H0 D σ M H R fun σ' M' H' s R' => ⟨true, hc, fun _ a _ => ?_, fun z => Bool.noConfusion z⟩
  exact hs a M0 H0 D σ' M' H' R' (p.later s)
end
end Ck

namespace Ck
open PySem PySem.Spec PyProof.Rows L2

abbrev N_coin : List Str := ["seed", "n", "text", "value", "sign", "_"]
def t_coin (K : PySem.W.Frag) (E : XK) : TS :=
    (tSeq (tAsg (tOp aMod (tOp aAdd (tOp aAdd (tOp aMul (tVar 0) (tC (.int 31))) (tOp aMul (tVar 1) (tC (.int 1009)))) (tC (.int 11))) (tC (.int 2147483647))) (gName 3))
    (tSeq (tFor (iStr (tVar 2)) (gName 4) (tAsg (tOp aMod (tOp aAdd (tOp aAdd (tOp aMul (tVar 3) (tC (.int 263))) (tCB cOrd (tCons (tVar 4) tNil))) (tC (.int 1))) (tC (.int 2147483647))) (gName 3)))
    (tSeq (tFor (iRng1 (tCons (tC (.int 3)) tNil)) (gName 5) (tAsg (tOp aMod (tOp aAdd (tOp aMul (tVar 3) (tC (.int 48271))) (tC (.int 12345))) (tC (.int 2147483647))) (gName 3)))
    (tRet (tOp aMod (tOp aDiv (tVar 3) (tC (.int 1000))) (tC (.int 1000000)))))))
abbrev N_challenge : List Str := ["q", "text"]
def t_challenge (K : PySem.W.Frag) (E : XK) (R_coin : Con) : TS :=
    (tRet (tOp aAdd (tC (.int 1)) (tOp aMod (tCallS (spD K R_coin) (WE W0) (tCons (tC (.int 0)) (tCons (tVar 0) (tCons (tVar 1) tNil)))) (tOp aSub (tVar 0) (tC (.int 1))))))
abbrev N_joined_text : List Str := ["word", "numbers", "number"]
def t_joined_text (K : PySem.W.Frag) (E : XK) : TS :=
    (tRet (tM1 (rJoin K) (tC (.str " ")) (tOp rCat (tLst (tCons (tVar 0) tNil)) (tLc (iSeq K (tVar 1)) (gName 2) tYes (tCB cStr (tCons (tVar 2) tNil)) [2]))))
abbrev N_challenge_of : List Str := ["q", "word", "numbers"]
def t_challenge_of (K : PySem.W.Frag) (E : XK) (R_joined_text R_challenge : Con) : TS :=
    (tRet (tCallS (spD K R_challenge) (WE W0) (tCons (tVar 0) (tCons (tCallS (spD K R_joined_text) (WE W0) (tCons (tVar 1) (tCons (tVar 2) tNil))) tNil))))
abbrev N_raised : List Str := ["base", "exponent", "modulus", "value", "square"]
def t_raised (K : PySem.W.Frag) (E : XK) : TS :=
    (tSeq (tAsg (tC (.int 1)) (gName 3))
    (tSeq (tAsg (tOp aMod (tVar 0) (tVar 2)) (gName 4))
    (tSeq (tWhile (tTest (tOp aGt (tVar 1) (tC (.int 0)))) (tSeq (tIfS (tTest (tOp rEq (tOp aMod (tVar 1) (tC (.int 2))) (tC (.int 1)))) (tAsg (tOp aMod (tOp aMul (tVar 3) (tVar 4)) (tVar 2)) (gName 3)) tNext)
    (tSeq (tAsg (tOp aMod (tOp aMul (tVar 4) (tVar 4)) (tVar 2)) (gName 4))
    (tAug 1 (tC (.int 2)) aDiv))))
    (tRet (tVar 3)))))
abbrev N_is_element : List Str := ["q", "value"]
def t_is_element (K : PySem.W.Frag) (E : XK) (R_raised : Con) : TS :=
    (tRet (tAndV (tChain aLt aLt (tC (.int 0)) (tVar 1) (tOp aAdd (tOp aMul (tC (.int 2)) (tVar 0)) (tC (.int 1)))) (tOp rEq (tCallS (spD K R_raised) (WE W0) (tCons (tVar 1) (tCons (tVar 0) (tCons (tOp aAdd (tOp aMul (tC (.int 2)) (tVar 0)) (tC (.int 1))) tNil)))) (tC (.int 1)))))
abbrev N_check_element : List Str := ["q", "value"]
def t_check_element (K : PySem.W.Frag) (E : XK) (R_is_element : Con) : TS :=
    (tIfS (tNot (tB (tCallS (spD K R_is_element) (WE W0) (tCons (tVar 0) (tCons (tVar 1) tNil))))) tNever tNext)
abbrev N_power : List Str := ["q", "base", "exponent"]
def t_power (K : PySem.W.Frag) (E : XK) (R_check_element R_raised : Con) : TS :=
    (tSeq (tDrop (tCallS (spD K R_check_element) (WE W0) (tCons (tVar 0) (tCons (tVar 1) tNil))))
    (tRet (tCallS (spD K R_raised) (WE W0) (tCons (tVar 1) (tCons (tOp aMod (tVar 2) (tVar 0)) (tCons (tOp aAdd (tOp aMul (tC (.int 2)) (tVar 0)) (tC (.int 1))) tNil))))))
abbrev N_product : List Str := ["q", "first", "second"]
def t_product (K : PySem.W.Frag) (E : XK) (R_check_element : Con) : TS :=
    (tSeq (tDrop (tCallS (spD K R_check_element) (WE W0) (tCons (tVar 0) (tCons (tVar 1) tNil))))
    (tSeq (tDrop (tCallS (spD K R_check_element) (WE W0) (tCons (tVar 0) (tCons (tVar 2) tNil))))
    (tRet (tOp aMod (tOp aMul (tVar 1) (tVar 2)) (tOp aAdd (tOp aMul (tC (.int 2)) (tVar 0)) (tC (.int 1)))))))
abbrev N_product_of_powers : List Str := ["q", "bases", "exponents", "value", "base", "exponent"]
def t_product_of_powers (K : PySem.W.Frag) (E : XK) (R_power : Con) : TS :=
    (tSeq (tIfS (tTest (tOp rNe (tCB (cLen K) (tCons (tVar 1) tNil)) (tCB (cLen K) (tCons (tVar 2) tNil)))) tNever tNext)
    (tSeq (tAsg (tC (.int 1)) (gName 3))
    (tSeq (tFor (RZ.iZipA K (tCons (tVar 1) (tCons (tVar 2) tNil))) (gTup K 2 (gCons (gName 4) (gCons (gName 5) gNil))) (tAsg (tOp aMod (tOp aMul (tVar 3) (tCallS (spD K R_power) (WE W0) (tCons (tVar 0) (tCons (tVar 4) (tCons (tVar 5) tNil))))) (tOp aAdd (tOp aMul (tC (.int 2)) (tVar 0)) (tC (.int 1)))) (gName 3)))
    (tRet (tVar 3)))))
abbrev N_inverse : List Str := ["q", "value"]
def t_inverse (K : PySem.W.Frag) (E : XK) (R_power : Con) : TS :=
    (tRet (tCallS (spD K R_power) (WE W0) (tCons (tVar 0) (tCons (tVar 1) (tCons (tUn aNeg (tC (.int 1))) tNil)))))
abbrev N_logarithm : List Str := ["q", "base", "value", "exponent", "found"]
def t_logarithm (K : PySem.W.Frag) (E : XK) (R_check_element : Con) : TS :=
    (tSeq (tDrop (tCallS (spD K R_check_element) (WE W0) (tCons (tVar 0) (tCons (tVar 1) tNil))))
    (tSeq (tDrop (tCallS (spD K R_check_element) (WE W0) (tCons (tVar 0) (tCons (tVar 2) tNil))))
    (tSeq (tIfS (tTest (tOp rEq (tVar 1) (tC (.int 1)))) tNever tNext)
    (tSeq (tAsg (tC (.int 0)) (gName 3))
    (tSeq (tAsg (tC (.int 1)) (gName 4))
    (tSeq (tWhile (tTest (tOp rNe (tVar 4) (tVar 2))) (tSeq (tAsg (tOp aMod (tOp aMul (tVar 4) (tVar 1)) (tOp aAdd (tOp aMul (tC (.int 2)) (tVar 0)) (tC (.int 1)))) (gName 4))
    (tAug 3 (tC (.int 1)) aAdd)))
    (tRet (tVar 3))))))))
abbrev N_quotient : List Str := ["q", "first", "second"]
def t_quotient (K : PySem.W.Frag) (E : XK) (R_raised : Con) : TS :=
    (tSeq (tIfS (tTest (tOp rEq (tOp aMod (tVar 2) (tVar 0)) (tC (.int 0)))) (tRaise K (WD E) "NotAllowed") tNext)
    (tRet (tOp aMod (tOp aMul (tVar 1) (tCallS (spD K R_raised) (WE W0) (tCons (tVar 2) (tCons (tOp aSub (tVar 0) (tC (.int 2))) (tCons (tVar 0) tNil))))) (tVar 0))))
abbrev N_setup_of : List Str := ["q", "seed", "at"]
def t_setup_of (K : PySem.W.Frag) (E : XK) (R_coin R_power : Con) : TS :=
    (tRet (tTup (tCons (tVar 0) (tCons (tCB (cTup K) (tCons (tLc (iRng1 (tCons (tC (.int 5)) tNil)) (gName 2) tYes (tCallS (spD K R_power) (WE W0) (tCons (tVar 0) (tCons (tC (.int 4)) (tCons (tOp aAdd (tC (.int 1)) (tOp aMod (tCallS (spD K R_coin) (WE W0) (tCons (tVar 1) (tCons (tVar 2) (tCons (tC (.str "base")) tNil)))) (tOp aSub (tVar 0) (tC (.int 1))))) tNil)))) [2]) tNil)) tNil))))
abbrev N_is_exponent_claims : List Str := ["q", "number"]
def t_is_exponent_claims (K : PySem.W.Frag) (E : XK) : TS :=
    (tRet (tChain aLe aLt (tC (.int 0)) (tVar 1) (tVar 0)))
abbrev N_are_values : List Str := ["q", "claim", "values", "value"]
def t_are_values (K : PySem.W.Frag) (E : XK) (R_is_exponent_claims : Con) : TS :=
    (tRet (tAndV (tOp rEq (tCB (cLen K) (tCons (tVar 2) tNil)) (tOp (rIx K) (tVar 1) (tC (.int 0)))) (tCB (rAll K) (tCons (tLc (iSeq K (tVar 2)) (gName 3) tYes (tCallS (spD K R_is_exponent_claims) (WE W0) (tCons (tVar 0) (tCons (tVar 3) tNil))) [3]) tNil))))
abbrev N_check_values : List Str := ["q", "claim", "values"]
def t_check_values (K : PySem.W.Frag) (E : XK) (R_are_values : Con) : TS :=
    (tIfS (tNot (tB (tCallS (spD K R_are_values) (WE W0) (tCons (tVar 0) (tCons (tVar 1) (tCons (tVar 2) tNil)))))) tNever tNext)
abbrev N_holds : List Str := ["q", "claim", "values", "y", "bases"]
def t_holds (K : PySem.W.Frag) (E : XK) (R_check_values R_product_of_powers : Con) : TS :=
    (tSeq (tDrop (tCallS (spD K R_check_values) (WE W0) (tCons (tVar 0) (tCons (tVar 1) (tCons (tVar 2) tNil)))))
    (tRet (tCB (rAll K) (tCons (tLc (iSeq K (tOp (rIx K) (tVar 1) (tC (.int 1)))) (gTup K 2 (gCons (gName 3) (gCons (gName 4) gNil))) tYes (tOp rEq (tCallS (spD K R_product_of_powers) (WE W0) (tCons (tVar 0) (tCons (tCB (cLst K) (tCons (tVar 4) tNil)) (tCons (tCB (cLst K) (tCons (tVar 2) tNil)) tNil)))) (tVar 3)) [3, 4]) tNil))))
abbrev N_claim_numbers : List Str := ["claim", "numbers", "y", "bases"]
def t_claim_numbers (K : PySem.W.Frag) (E : XK) : TS :=
    (tSeq (tAsg (tLst (tCons (tOp (rIx K) (tVar 0) (tC (.int 0))) (tCons (tCB (cLen K) (tCons (tOp (rIx K) (tVar 0) (tC (.int 1))) tNil)) tNil))) (gName 1))
    (tSeq (tFor (iSeq K (tOp (rIx K) (tVar 0) (tC (.int 1)))) (gTup K 2 (gCons (gName 2) (gCons (gName 3) gNil))) (tSeq (tDrop (tBM K "list" rAppend (tVar 1) (tCons (tVar 2) tNil)))
    (tDrop (tBM K "list" (rExtT K) (tVar 1) (tCons (tVar 3) tNil)))))
    (tRet (tVar 1))))
abbrev N_traces : List Str := ["q", "claim", "c", "answers", "found", "y", "bases", "whole"]
def t_traces (K : PySem.W.Frag) (E : XK) (R_is_exponent_claims R_check_values R_product_of_powers R_power R_inverse R_product : Con) : TS :=
    (tSeq (tIfS (tNot (tB (tCallS (spD K R_is_exponent_claims) (WE W0) (tCons (tVar 0) (tCons (tVar 2) tNil))))) tNever tNext)
    (tSeq (tDrop (tCallS (spD K R_check_values) (WE W0) (tCons (tVar 0) (tCons (tVar 1) (tCons (tVar 3) tNil)))))
    (tSeq (tAsg (tLst tNil) (gName 4))
    (tSeq (tFor (iSeq K (tOp (rIx K) (tVar 1) (tC (.int 1)))) (gTup K 2 (gCons (gName 5) (gCons (gName 6) gNil))) (tSeq (tAsg (tCallS (spD K R_product_of_powers) (WE W0) (tCons (tVar 0) (tCons (tCB (cLst K) (tCons (tVar 6) tNil)) (tCons (tCB (cLst K) (tCons (tVar 3) tNil)) tNil)))) (gName 7))
    (tDrop (tBM K "list" rAppend (tVar 4) (tCons (tCallS (spD K R_product) (WE W0) (tCons (tVar 0) (tCons (tVar 7) (tCons (tCallS (spD K R_inverse) (WE W0) (tCons (tVar 0) (tCons (tCallS (spD K R_power) (WE W0) (tCons (tVar 0) (tCons (tVar 5) (tCons (tVar 2) tNil)))) tNil))) tNil)))) tNil)))))
    (tRet (tVar 4))))))
abbrev N_choice_numbers : List Str := ["choice", "numbers", "claim"]
def t_choice_numbers (K : PySem.W.Frag) (E : XK) (R_claim_numbers : Con) : TS :=
    (tSeq (tAsg (tLst (tCons (tCB (cLen K) (tCons (tVar 0) tNil)) tNil)) (gName 1))
    (tSeq (tFor (iSeq K (tVar 0)) (gName 2) (tDrop (tBM K "list" rExtend (tVar 1) (tCons (tCallS (spD K R_claim_numbers) (WE W0) (tCons (tVar 2) tNil)) tNil))))
    (tRet (tVar 1))))
abbrev N_has_form : List Str := ["q", "choice", "paper", "claim", "pair"]
def t_has_form (K : PySem.W.Frag) (E : XK) (R_is_exponent_claims R_are_values : Con) : TS :=
    (tSeq (tIfS (tTest (tOp rNe (tCB (cLen K) (tCons (tVar 2) tNil)) (tCB (cLen K) (tCons (tVar 1) tNil)))) (tRet (tC (.bl false))) tNext)
    (tSeq (tFor (RZ.iZipA K (tCons (tVar 1) (tCons (tVar 2) tNil))) (gTup K 2 (gCons (gName 3) (gCons (gName 4) gNil))) (tIfS (tOr (tTest (tOp rNe (tCB (cLen K) (tCons (tVar 4) tNil)) (tC (.int 2)))) (tOr (tNot (tB (tCallS (spD K R_is_exponent_claims) (WE W0) (tCons (tVar 0) (tCons (tOp (rIx K) (tVar 4) (tC (.int 0))) tNil))))) (tNot (tB (tCallS (spD K R_are_values) (WE W0) (tCons (tVar 0) (tCons (tVar 3) (tCons (tOp (rIx K) (tVar 4) (tC (.int 1))) tNil)))))))) (tRet (tC (.bl false))) tNext))
    (tRet (tC (.bl true)))))
abbrev N_call_of : List Str := ["q", "text", "choice", "paper", "numbers", "claim", "pair"]
def t_call_of (K : PySem.W.Frag) (E : XK) (R_choice_numbers R_traces R_challenge_of : Con) : TS :=
    (tSeq (tAsg (tCallS (spD K R_choice_numbers) (WE W0) (tCons (tVar 2) tNil)) (gName 4))
    (tSeq (tFor (RZ.iZipA K (tCons (tVar 2) (tCons (tVar 3) tNil))) (gTup K 2 (gCons (gName 5) (gCons (gName 6) gNil))) (tDrop (tBM K "list" rExtend (tVar 4) (tCons (tCallS (spD K R_traces) (WE W0) (tCons (tVar 0) (tCons (tVar 5) (tCons (tOp (rIx K) (tVar 6) (tC (.int 0))) (tCons (tOp (rIx K) (tVar 6) (tC (.int 1))) tNil))))) tNil))))
    (tRet (tCallS (spD K R_challenge_of) (WE W0) (tCons (tVar 0) (tCons (tOp rAddS (tC (.str "paper ")) (tVar 1)) (tCons (tVar 4) tNil)))))))
abbrev N_check_maker : List Str := ["q", "choice", "index", "values"]
def t_check_maker (K : PySem.W.Frag) (E : XK) (R_are_values R_holds : Con) : TS :=
    (tSeq (tIfS (tOr (tTest (tOp aLt (tVar 2) (tC (.int 0)))) (tOr (tTest (tOp aGe (tVar 2) (tCB (cLen K) (tCons (tVar 1) tNil)))) (tNot (tB (tCallS (spD K R_are_values) (WE W0) (tCons (tVar 0) (tCons (tOp (rIx K) (tVar 1) (tVar 2)) (tCons (tVar 3) tNil)))))))) tNever tNext)
    (tIfS (tNot (tB (tCallS (spD K R_holds) (WE W0) (tCons (tVar 0) (tCons (tOp (rIx K) (tVar 1) (tVar 2)) (tCons (tVar 3) tNil)))))) tNever tNext))
abbrev N_sum_of_others : List Str := ["paper", "index", "at", "pair"]
def t_sum_of_others (K : PySem.W.Frag) (E : XK) : TS :=
    (tRet (tCB (rSum K) (tCons (tLc (iEnumT K (tCons (tVar 0) tNil)) (gTup K 2 (gCons (gName 2) (gCons (gName 3) gNil))) (tTest (tOp rNe (tVar 2) (tVar 1))) (tOp (rIx K) (tVar 3) (tC (.int 0))) [2, 3]) tNil)))
abbrev N_make_paper : List Str := ["q", "text", "choice", "index", "values", "noise", "c", "answers", "n", "x"]
def t_make_paper (K : PySem.W.Frag) (E : XK) (R_check_maker R_has_form R_call_of R_sum_of_others : Con) : TS :=
    (tSeq (tDrop (tCallS (spD K R_check_maker) (WE W0) (tCons (tVar 0) (tCons (tVar 2) (tCons (tVar 3) (tCons (tVar 4) tNil))))))
    (tSeq (tIfS (tOr (tNot (tB (tCallS (spD K R_has_form) (WE W0) (tCons (tVar 0) (tCons (tVar 2) (tCons (tVar 5) tNil)))))) (tTest (tOp rNe (tOp (rIx K) (tOp (rIx K) (tVar 5) (tVar 3)) (tC (.int 0))) (tC (.int 0))))) tNever tNext)
    (tSeq (tAsg (tOp aMod (tOp aSub (tCallS (spD K R_call_of) (WE W0) (tCons (tVar 0) (tCons (tVar 1) (tCons (tVar 2) (tCons (tVar 5) tNil))))) (tCallS (spD K R_sum_of_others) (WE W0) (tCons (tVar 5) (tCons (tVar 3) tNil)))) (tVar 0)) (gName 6))
    (tSeq (tAsg (tCB (cTup K) (tCons (tLc (RZ.iZipA K (tCons (tOp (rIx K) (tOp (rIx K) (tVar 5) (tVar 3)) (tC (.int 1))) (tCons (tVar 4) tNil))) (gTup K 2 (gCons (gName 8) (gCons (gName 9) gNil))) tYes (tOp aMod (tOp aAdd (tVar 8) (tOp aMul (tVar 6) (tVar 9))) (tVar 0)) [8, 9]) tNil)) (gName 7))
    (tRet (tOp (rCatA K) (tOp (rCatA K) (tSl (rSlA K) (tVar 5) tNoPart (tPart (tVar 3))) (tTup (tCons (tTup (tCons (tVar 6) (tCons (tVar 7) tNil))) tNil))) (tSl (rSlA K) (tVar 5) (tPart (tOp aAdd (tVar 3) (tC (.int 1)))) tNoPart)))))))
abbrev N_check_paper : List Str := ["q", "text", "choice", "paper"]
def t_check_paper (K : PySem.W.Frag) (E : XK) (R_has_form R_sum_of_others R_call_of : Con) : TS :=
    (tSeq (tIfS (tNot (tB (tCallS (spD K R_has_form) (WE W0) (tCons (tVar 0) (tCons (tVar 2) (tCons (tVar 3) tNil)))))) tNever tNext)
    (tIfS (tTest (tOp rNe (tOp aMod (tOp aSub (tCallS (spD K R_sum_of_others) (WE W0) (tCons (tVar 3) (tCons (tUn aNeg (tC (.int 1))) tNil))) (tCallS (spD K R_call_of) (WE W0) (tCons (tVar 0) (tCons (tVar 1) (tCons (tVar 2) (tCons (tVar 3) tNil)))))) (tVar 0)) (tC (.int 0)))) tNever tNext))
abbrev N_explain_paper : List Str := ["q", "text", "choice", "paper", "index", "values", "noise", "c", "answers", "a", "x"]
def t_explain_paper (K : PySem.W.Frag) (E : XK) (R_check_paper R_check_maker : Con) : TS :=
    (tSeq (tDrop (tCallS (spD K R_check_paper) (WE W0) (tCons (tVar 0) (tCons (tVar 1) (tCons (tVar 2) (tCons (tVar 3) tNil))))))
    (tSeq (tDrop (tCallS (spD K R_check_maker) (WE W0) (tCons (tVar 0) (tCons (tVar 2) (tCons (tVar 4) (tCons (tVar 5) tNil))))))
    (tSeq (tAsg (tOp (rIx K) (tVar 3) (tVar 4)) (gTup K 2 (gCons (gName 7) (gCons (gName 8) gNil))))
    (tSeq (tAsg (tCB (cTup K) (tCons (tLc (RZ.iZipA K (tCons (tVar 8) (tCons (tVar 5) tNil))) (gTup K 2 (gCons (gName 9) (gCons (gName 10) gNil))) tYes (tOp aMod (tOp aSub (tVar 9) (tOp aMul (tVar 7) (tVar 10))) (tVar 0)) [9, 10]) tNil)) (gName 6))
    (tRet (tOp (rCatA K) (tOp (rCatA K) (tSl (rSlA K) (tVar 3) tNoPart (tPart (tVar 4))) (tTup (tCons (tTup (tCons (tC (.int 0)) (tCons (tVar 6) tNil))) tNil))) (tSl (rSlA K) (tVar 3) (tPart (tOp aAdd (tVar 4) (tC (.int 1)))) tNoPart)))))))
abbrev N_is_pair : List Str := ["pair"]
def t_is_pair (K : PySem.W.Frag) (E : XK) : TS :=
    (tRet (tAndV (tOp rEq (tCB (cLen K) (tCons (tVar 0) tNil)) (tC (.int 2))) (tAndV (tChain aLe aLt (tC (.int 0)) (tOp (rIx K) (tVar 0) (tC (.int 0))) (tC (.int 5))) (tChain aLe aLt (tC (.int 0)) (tOp (rIx K) (tVar 0) (tC (.int 1))) (tC (.int 5))))))
abbrev N_index_of : List Str := ["pair"]
def t_index_of (K : PySem.W.Frag) (E : XK) (R_is_pair : Con) : TS :=
    (tSeq (tIfS (tNot (tB (tCallS (spD K R_is_pair) (WE W0) (tCons (tVar 0) tNil)))) tNever tNext)
    (tRet (tOp aAdd (tOp aMul (tC (.int 5)) (tOp (rIx K) (tVar 0) (tC (.int 0)))) (tOp (rIx K) (tVar 0) (tC (.int 1))))))
abbrev N_check_set : List Str := ["pairs", "last", "pair", "index"]
def t_check_set (K : PySem.W.Frag) (E : XK) (R_index_of : Con) : TS :=
    (tSeq (tAsg (tUn aNeg (tC (.int 1))) (gName 1))
    (tFor (iSeq K (tVar 0)) (gName 2) (tSeq (tAsg (tCallS (spD K R_index_of) (WE W0) (tCons (tVar 2) tNil)) (gName 3))
    (tSeq (tIfS (tTest (tOp aLe (tVar 3) (tVar 1))) tNever tNext)
    (tAsg (tVar 3) (gName 1))))))
abbrev N_is_exponent_passes : List Str := ["q", "value"]
def t_is_exponent_passes (K : PySem.W.Frag) (E : XK) : TS :=
    (tRet (tChain aLe aLt (tC (.int 0)) (tVar 1) (tVar 0)))
abbrev N_check_person : List Str := ["setup", "person", "number", "age", "zone"]
def t_check_person (K : PySem.W.Frag) (E : XK) (R_is_exponent_passes : Con) : TS :=
    (tSeq (tAsg (tVar 1) (gTup K 3 (gCons (gName 2) (gCons (gName 3) (gCons (gName 4) gNil)))))
    (tIfS (tOr (tNot (tB (tCallS (spD K R_is_exponent_passes) (WE W0) (tCons (tOp (rIx K) (tVar 0) (tC (.int 0))) (tCons (tVar 2) tNil))))) (tOr (tNot (tTest (tChain aLe aLe (tC (.int 0)) (tVar 3) (tC (.int 4))))) (tNot (tTest (tChain aLe aLe (tC (.int 0)) (tVar 4) (tC (.int 4))))))) tNever tNext))
abbrev N_plain_mark : List Str := ["setup", "person", "q", "bases"]
def t_plain_mark (K : PySem.W.Frag) (E : XK) (R_product_of_powers : Con) : TS :=
    (tSeq (tAsg (tVar 0) (gTup K 2 (gCons (gName 2) (gCons (gName 3) gNil))))
    (tRet (tCallS (spD K R_product_of_powers) (WE W0) (tCons (tVar 2) (tCons (tCB (cLst K) (tCons (tSl (rSlA K) (tVar 3) (tPart (tC (.int 1))) tNoPart) tNil)) (tCons (tOp rCat (tLst (tCons (tC (.int 1)) tNil)) (tCB (cLst K) (tCons (tVar 1) tNil))) tNil))))))
abbrev N_mark_of : List Str := ["setup", "person", "mark"]
def t_mark_of (K : PySem.W.Frag) (E : XK) (R_check_person R_plain_mark : Con) : TS :=
    (tSeq (tDrop (tCallS (spD K R_check_person) (WE W0) (tCons (tVar 0) (tCons (tVar 1) tNil))))
    (tSeq (tAsg (tCallS (spD K R_plain_mark) (WE W0) (tCons (tVar 0) (tCons (tVar 1) tNil))) (gName 2))
    (tSeq (tIfS (tTest (tOp rEq (tVar 2) (tC (.int 1)))) (tRaise K (WD E) "NotAllowed") tNext)
    (tRet (tVar 2)))))
abbrev N_check_secret : List Str := ["setup", "secret"]
def t_check_secret (K : PySem.W.Frag) (E : XK) : TS :=
    (tIfS (tNot (tTest (tChain aLe aLt (tC (.int 1)) (tVar 1) (tOp (rIx K) (tVar 0) (tC (.int 0)))))) tNever tNext)
abbrev N_check_exponents : List Str := ["setup", "values", "value"]
def t_check_exponents (K : PySem.W.Frag) (E : XK) (R_is_exponent_passes : Con) : TS :=
    (tIfS (tNot (tB (tCB (rAll K) (tCons (tLc (iSeq K (tVar 1)) (gName 2) tYes (tCallS (spD K R_is_exponent_passes) (WE W0) (tCons (tOp (rIx K) (tVar 0) (tC (.int 0))) (tCons (tVar 2) tNil))) [2]) tNil)))) tNever tNext)
abbrev N_check_blinding : List Str := ["setup", "blinding", "s", "u", "v", "rest"]
def t_check_blinding (K : PySem.W.Frag) (E : XK) (R_check_exponents : Con) : TS :=
    (tSeq (tAsg (tVar 1) (gTup K 4 (gCons (gName 2) (gCons (gName 3) (gCons (gName 4) (gCons (gName 5) gNil))))))
    (tSeq (tDrop (tCallS (spD K R_check_exponents) (WE W0) (tCons (tVar 0) (tCons (tOp rCat (tLst (tCons (tVar 2) (tCons (tVar 3) (tCons (tVar 4) tNil)))) (tCB (cLst K) (tCons (tVar 5) tNil))) tNil))))
    (tIfS (tOr (tTest (tOp rEq (tVar 2) (tC (.int 0)))) (tTest (tOp rEq (tVar 3) (tC (.int 0))))) tNever tNext)))
abbrev N_key_of : List Str := ["setup", "secret"]
def t_key_of (K : PySem.W.Frag) (E : XK) (R_check_secret R_power : Con) : TS :=
    (tSeq (tDrop (tCallS (spD K R_check_secret) (WE W0) (tCons (tVar 0) (tCons (tVar 1) tNil))))
    (tRet (tCallS (spD K R_power) (WE W0) (tCons (tOp (rIx K) (tVar 0) (tC (.int 0))) (tCons (tOp (rIx K) (tOp (rIx K) (tVar 0) (tC (.int 1))) (tC (.int 0))) (tCons (tVar 1) tNil))))))
abbrev N_offer_of : List Str := ["setup", "secret", "person", "w", "mark", "q"]
def t_offer_of (K : PySem.W.Frag) (E : XK) (R_check_secret R_check_exponents R_mark_of R_power : Con) : TS :=
    (tSeq (tDrop (tCallS (spD K R_check_secret) (WE W0) (tCons (tVar 0) (tCons (tVar 1) tNil))))
    (tSeq (tDrop (tCallS (spD K R_check_exponents) (WE W0) (tCons (tVar 0) (tCons (tLst (tCons (tVar 3) tNil)) tNil))))
    (tSeq (tAsg (tCallS (spD K R_mark_of) (WE W0) (tCons (tVar 0) (tCons (tVar 2) tNil))) (gName 4))
    (tSeq (tAsg (tOp (rIx K) (tVar 0) (tC (.int 0))) (gName 5))
    (tRet (tTup (tCons (tCallS (spD K R_power) (WE W0) (tCons (tVar 5) (tCons (tVar 4) (tCons (tVar 1) tNil)))) (tCons (tCallS (spD K R_power) (WE W0) (tCons (tVar 5) (tCons (tOp (rIx K) (tOp (rIx K) (tVar 0) (tC (.int 1))) (tC (.int 0))) (tCons (tVar 3) tNil)))) (tCons (tCallS (spD K R_power) (WE W0) (tCons (tVar 5) (tCons (tVar 4) (tCons (tVar 3) tNil)))) tNil)))))))))
abbrev N_hidden : List Str := ["setup", "person", "offer", "blinding", "mark", "first", "second", "a1", "b1", "q", "bases", "z", "a", "b", "s", "u", "v", "rest", "value"]
def t_hidden (K : PySem.W.Frag) (E : XK) (R_mark_of R_is_element R_check_blinding R_power R_product_of_powers R_product : Con) : TS :=
    (tSeq (tAsg (tCallS (spD K R_mark_of) (WE W0) (tCons (tVar 0) (tCons (tVar 1) tNil))) (gName 4))
    (tSeq (tAsg (tVar 0) (gTup K 2 (gCons (gName 9) (gCons (gName 10) gNil))))
    (tSeq (tIfS (tOr (tNot (tB (tCB (rAll K) (tCons (tLc (iSeq K (tVar 2)) (gName 18) tYes (tCallS (spD K R_is_element) (WE W0) (tCons (tVar 9) (tCons (tVar 18) tNil))) [18]) tNil)))) (tTest (tOp rEq (tOp (rIx K) (tVar 2) (tC (.int 0))) (tC (.int 1))))) tNever tNext)
    (tSeq (tDrop (tCallS (spD K R_check_blinding) (WE W0) (tCons (tVar 0) (tCons (tVar 3) tNil))))
    (tSeq (tAsg (tVar 2) (gTup K 3 (gCons (gName 11) (gCons (gName 12) (gCons (gName 13) gNil)))))
    (tSeq (tAsg (tVar 3) (gTup K 4 (gCons (gName 14) (gCons (gName 15) (gCons (gName 16) (gCons (gName 17) gNil))))))
    (tSeq (tAsg (tCallS (spD K R_power) (WE W0) (tCons (tVar 9) (tCons (tVar 4) (tCons (tVar 14) tNil)))) (gName 5))
    (tSeq (tAsg (tCallS (spD K R_product_of_powers) (WE W0) (tCons (tVar 9) (tCons (tCB (cLst K) (tCons (tSl (rSlA K) (tVar 10) (tPart (tC (.int 1))) tNoPart) tNil)) (tCons (tCB (cLst K) (tCons (tVar 17) tNil)) tNil)))) (gName 6))
    (tSeq (tAsg (tCallS (spD K R_product) (WE W0) (tCons (tVar 9) (tCons (tCallS (spD K R_power) (WE W0) (tCons (tVar 9) (tCons (tVar 12) (tCons (tVar 15) tNil)))) (tCons (tCallS (spD K R_power) (WE W0) (tCons (tVar 9) (tCons (tOp (rIx K) (tVar 10) (tC (.int 0))) (tCons (tVar 16) tNil)))) tNil)))) (gName 7))
    (tSeq (tAsg (tCallS (spD K R_product) (WE W0) (tCons (tVar 9) (tCons (tCallS (spD K R_power) (WE W0) (tCons (tVar 9) (tCons (tVar 13) (tCons (tOp aMul (tVar 14) (tVar 15)) tNil)))) (tCons (tCallS (spD K R_power) (WE W0) (tCons (tVar 9) (tCons (tVar 5) (tCons (tVar 16) tNil)))) tNil)))) (gName 8))
    (tRet (tTup (tCons (tVar 5) (tCons (tVar 6) (tCons (tCallS (spD K R_power) (WE W0) (tCons (tVar 9) (tCons (tVar 11) (tCons (tVar 14) tNil)))) (tCons (tVar 7) (tCons (tVar 8) tNil)))))))))))))))))
abbrev N_challenge_for : List Str := ["q", "numbers"]
def t_challenge_for (K : PySem.W.Frag) (E : XK) (R_challenge_of : Con) : TS :=
    (tRet (tCallS (spD K R_challenge_of) (WE W0) (tCons (tVar 0) (tCons (tC (.str "ticket")) (tCons (tCB (cLst K) (tCons (tVar 1) tNil)) tNil)))))
abbrev N_request_of : List Str := ["setup", "person", "offer", "blinding", "q", "numbers"]
def t_request_of (K : PySem.W.Frag) (E : XK) (R_hidden R_challenge_for R_quotient : Con) : TS :=
    (tSeq (tAsg (tOp (rIx K) (tVar 0) (tC (.int 0))) (gName 4))
    (tSeq (tAsg (tCallS (spD K R_hidden) (WE W0) (tCons (tVar 0) (tCons (tVar 1) (tCons (tVar 2) (tCons (tVar 3) tNil))))) (gName 5))
    (tRet (tCallS (spD K R_quotient) (WE W0) (tCons (tVar 4) (tCons (tCallS (spD K R_challenge_for) (WE W0) (tCons (tVar 4) (tCons (tVar 5) tNil))) (tCons (tOp (rIx K) (tVar 3) (tC (.int 1))) tNil)))))))
abbrev N_grant_of : List Str := ["setup", "secret", "w", "c"]
def t_grant_of (K : PySem.W.Frag) (E : XK) (R_check_secret R_check_exponents : Con) : TS :=
    (tSeq (tDrop (tCallS (spD K R_check_secret) (WE W0) (tCons (tVar 0) (tCons (tVar 1) tNil))))
    (tSeq (tDrop (tCallS (spD K R_check_exponents) (WE W0) (tCons (tVar 0) (tCons (tLst (tCons (tVar 2) (tCons (tVar 3) tNil))) tNil))))
    (tRet (tOp aMod (tOp aAdd (tVar 2) (tOp aMul (tVar 3) (tVar 1))) (tOp (rIx K) (tVar 0) (tC (.int 0)))))))
abbrev N_is_granted : List Str := ["q", "base", "r", "first", "second", "c"]
def t_is_granted (K : PySem.W.Frag) (E : XK) (R_power R_product : Con) : TS :=
    (tRet (tOp rEq (tCallS (spD K R_power) (WE W0) (tCons (tVar 0) (tCons (tVar 1) (tCons (tVar 2) tNil)))) (tCallS (spD K R_product) (WE W0) (tCons (tVar 0) (tCons (tVar 3) (tCons (tCallS (spD K R_power) (WE W0) (tCons (tVar 0) (tCons (tVar 4) (tCons (tVar 5) tNil)))) tNil))))))
abbrev N_ticket_of : List Str := ["setup", "key", "person", "offer", "blinding", "r", "numbers", "c", "q", "bases", "z", "a", "b"]
def t_ticket_of (K : PySem.W.Frag) (E : XK) (R_hidden R_check_exponents R_challenge_for R_quotient R_is_granted R_mark_of : Con) : TS :=
    (tSeq (tAsg (tCallS (spD K R_hidden) (WE W0) (tCons (tVar 0) (tCons (tVar 2) (tCons (tVar 3) (tCons (tVar 4) tNil))))) (gName 6))
    (tSeq (tDrop (tCallS (spD K R_check_exponents) (WE W0) (tCons (tVar 0) (tCons (tLst (tCons (tVar 5) tNil)) tNil))))
    (tSeq (tAsg (tVar 0) (gTup K 2 (gCons (gName 8) (gCons (gName 9) gNil))))
    (tSeq (tAsg (tVar 3) (gTup K 3 (gCons (gName 10) (gCons (gName 11) (gCons (gName 12) gNil)))))
    (tSeq (tAsg (tCallS (spD K R_quotient) (WE W0) (tCons (tVar 8) (tCons (tCallS (spD K R_challenge_for) (WE W0) (tCons (tVar 8) (tCons (tVar 6) tNil))) (tCons (tOp (rIx K) (tVar 4) (tC (.int 1))) tNil)))) (gName 7))
    (tSeq (tIfS (tOr (tNot (tB (tCallS (spD K R_is_granted) (WE W0) (tCons (tVar 8) (tCons (tOp (rIx K) (tVar 9) (tC (.int 0))) (tCons (tVar 5) (tCons (tVar 11) (tCons (tVar 1) (tCons (tVar 7) tNil))))))))) (tNot (tB (tCallS (spD K R_is_granted) (WE W0) (tCons (tVar 8) (tCons (tCallS (spD K R_mark_of) (WE W0) (tCons (tVar 0) (tCons (tVar 2) tNil))) (tCons (tVar 5) (tCons (tVar 12) (tCons (tVar 10) (tCons (tVar 7) tNil)))))))))) (tRaise K (WD E) "BadPaper") tNext)
    (tRet (tOp (rCatA K) (tVar 6) (tTup (tCons (tOp aMod (tOp aAdd (tOp aMul (tOp (rIx K) (tVar 4) (tC (.int 1))) (tVar 5)) (tOp (rIx K) (tVar 4) (tC (.int 2)))) (tVar 8)) tNil))))))))))
abbrev N_spend_of : List Str := ["setup", "person", "blinding", "d", "exponents", "scale", "answers", "x", "exponent"]
def t_spend_of (K : PySem.W.Frag) (E : XK) (R_check_person R_check_blinding R_check_exponents : Con) : TS :=
    (tSeq (tDrop (tCallS (spD K R_check_person) (WE W0) (tCons (tVar 0) (tCons (tVar 1) tNil))))
    (tSeq (tDrop (tCallS (spD K R_check_blinding) (WE W0) (tCons (tVar 0) (tCons (tVar 2) tNil))))
    (tSeq (tDrop (tCallS (spD K R_check_exponents) (WE W0) (tCons (tVar 0) (tCons (tLst (tCons (tVar 3) tNil)) tNil))))
    (tSeq (tAsg (tOp (rCatA K) (tTup (tCons (tC (.int 1)) tNil)) (tCB (cTup K) (tCons (tVar 1) tNil))) (gName 4))
    (tSeq (tAsg (tOp aMul (tVar 3) (tOp (rIx K) (tVar 2) (tC (.int 0)))) (gName 5))
    (tSeq (tAsg (tLc (RZ.iZipA K (tCons (tOp (rIx K) (tVar 2) (tC (.int 3))) (tCons (tVar 4) tNil))) (gTup K 2 (gCons (gName 7) (gCons (gName 8) gNil))) tYes (tOp aMod (tOp aAdd (tVar 7) (tOp aMul (tVar 5) (tVar 8))) (tOp (rIx K) (tVar 0) (tC (.int 0)))) [7, 8]) (gName 6))
    (tRet (tTup (tCons (tVar 3) (tCons (tCB (cTup K) (tCons (tVar 6) tNil)) tNil))))))))))
abbrev N_is_spend : List Str := ["setup", "ticket", "spend", "q", "bases", "d", "answers", "answer"]
def t_is_spend (K : PySem.W.Frag) (E : XK) (R_is_element R_is_exponent_passes R_product_of_powers R_power R_product : Con) : TS :=
    (tSeq (tAsg (tVar 0) (gTup K 2 (gCons (gName 3) (gCons (gName 4) gNil))))
    (tSeq (tAsg (tVar 2) (gTup K 2 (gCons (gName 5) (gCons (gName 6) gNil))))
    (tSeq (tIfS (tOr (tNot (tB (tCallS (spD K R_is_element) (WE W0) (tCons (tVar 3) (tCons (tOp (rIx K) (tVar 1) (tC (.int 0))) tNil))))) (tNot (tB (tCallS (spD K R_is_element) (WE W0) (tCons (tVar 3) (tCons (tOp (rIx K) (tVar 1) (tC (.int 1))) tNil)))))) (tRet (tC (.bl false))) tNext)
    (tSeq (tIfS (tOr (tNot (tB (tCallS (spD K R_is_exponent_passes) (WE W0) (tCons (tVar 3) (tCons (tVar 5) tNil))))) (tNot (tB (tCB (rAll K) (tCons (tLc (iSeq K (tVar 6)) (gName 7) tYes (tCallS (spD K R_is_exponent_passes) (WE W0) (tCons (tVar 3) (tCons (tVar 7) tNil))) [7]) tNil))))) (tRet (tC (.bl false))) tNext)
    (tRet (tOp rEq (tCallS (spD K R_product_of_powers) (WE W0) (tCons (tVar 3) (tCons (tCB (cLst K) (tCons (tSl (rSlA K) (tVar 4) (tPart (tC (.int 1))) tNoPart) tNil)) (tCons (tCB (cLst K) (tCons (tVar 6) tNil)) tNil)))) (tCallS (spD K R_product) (WE W0) (tCons (tVar 3) (tCons (tCallS (spD K R_power) (WE W0) (tCons (tVar 3) (tCons (tOp (rIx K) (tVar 1) (tC (.int 0))) (tCons (tVar 5) tNil)))) (tCons (tOp (rIx K) (tVar 1) (tC (.int 1))) tNil))))))))))
abbrev N_inner_challenge : List Str := ["setup", "ticket"]
def t_inner_challenge (K : PySem.W.Frag) (E : XK) (R_challenge_for : Con) : TS :=
    (tRet (tCallS (spD K R_challenge_for) (WE W0) (tCons (tOp (rIx K) (tVar 0) (tC (.int 0))) (tCons (tSl (rSlA K) (tVar 1) tNoPart (tPart (tC (.int 5)))) tNil))))
abbrev N_is_ticket : List Str := ["setup", "key", "ticket", "c1", "q", "bases", "first", "_", "z1", "a1", "b1", "r1", "value"]
def t_is_ticket (K : PySem.W.Frag) (E : XK) (R_is_element R_is_exponent_passes R_inner_challenge R_is_granted : Con) : TS :=
    (tSeq (tAsg (tVar 0) (gTup K 2 (gCons (gName 4) (gCons (gName 5) gNil))))
    (tSeq (tIfS (tOr (tNot (tB (tCB (rAll K) (tCons (tLc (iSeq K (tSl (rSlA K) (tVar 2) tNoPart (tPart (tC (.int 5))))) (gName 12) tYes (tCallS (spD K R_is_element) (WE W0) (tCons (tVar 4) (tCons (tVar 12) tNil))) [12]) tNil)))) (tOr (tTest (tOp rEq (tOp (rIx K) (tVar 2) (tC (.int 0))) (tC (.int 1)))) (tNot (tB (tCallS (spD K R_is_exponent_passes) (WE W0) (tCons (tVar 4) (tCons (tOp (rIx K) (tVar 2) (tC (.int 5))) tNil))))))) (tRet (tC (.bl false))) tNext)
    (tSeq (tAsg (tVar 2) (gTup K 6 (gCons (gName 6) (gCons (gName 7) (gCons (gName 8) (gCons (gName 9) (gCons (gName 10) (gCons (gName 11) gNil))))))))
    (tSeq (tAsg (tCallS (spD K R_inner_challenge) (WE W0) (tCons (tVar 0) (tCons (tVar 2) tNil))) (gName 3))
    (tRet (tAndV (tCallS (spD K R_is_granted) (WE W0) (tCons (tVar 4) (tCons (tOp (rIx K) (tVar 5) (tC (.int 0))) (tCons (tVar 11) (tCons (tVar 9) (tCons (tVar 1) (tCons (tVar 3) tNil))))))) (tCallS (spD K R_is_granted) (WE W0) (tCons (tVar 4) (tCons (tVar 6) (tCons (tVar 11) (tCons (tVar 10) (tCons (tVar 8) (tCons (tVar 3) tNil)))))))))))))
abbrev N_blinding_of : List Str := ["setup", "record", "ticket", "spend", "q", "s", "u", "v", "exponents", "rest", "person", "offer", "c", "r", "d", "answers", "answer", "exponent"]
def t_blinding_of (K : PySem.W.Frag) (E : XK) (R_mark_of R_logarithm R_inner_challenge R_quotient : Con) : TS :=
    (tSeq (tAsg (tVar 1) (gTup K 4 (gCons (gName 10) (gCons (gName 11) (gCons (gName 12) (gCons (gName 13) gNil))))))
    (tSeq (tAsg (tOp (rIx K) (tVar 0) (tC (.int 0))) (gName 4))
    (tSeq (tAsg (tCallS (spD K R_logarithm) (WE W0) (tCons (tVar 4) (tCons (tCallS (spD K R_mark_of) (WE W0) (tCons (tVar 0) (tCons (tVar 10) tNil))) (tCons (tOp (rIx K) (tVar 2) (tC (.int 0))) tNil)))) (gName 5))
    (tSeq (tAsg (tCallS (spD K R_quotient) (WE (WD E)) (tCons (tVar 4) (tCons (tCallS (spD K R_inner_challenge) (WE W0) (tCons (tVar 0) (tCons (tVar 2) tNil))) (tCons (tVar 12) tNil)))) (gName 6))
    (tSeq (tAsg (tOp aMod (tOp aSub (tOp (rIx K) (tVar 2) (tC (.int 5))) (tOp aMul (tVar 6) (tVar 13))) (tVar 4)) (gName 7))
    (tSeq (tAsg (tVar 3) (gTup K 2 (gCons (gName 14) (gCons (gName 15) gNil))))
    (tSeq (tAsg (tOp (rCatA K) (tTup (tCons (tC (.int 1)) tNil)) (tCB (cTup K) (tCons (tVar 10) tNil))) (gName 8))
    (tSeq (tAsg (tLc (RZ.iZipA K (tCons (tVar 15) (tCons (tVar 8) tNil))) (gTup K 2 (gCons (gName 16) (gCons (gName 17) gNil))) tYes (tOp aMod (tOp aSub (tVar 16) (tOp aMul (tOp aMul (tVar 14) (tVar 5)) (tVar 17))) (tVar 4)) [16, 17]) (gName 9))
    (tRet (tTup (tCons (tVar 5) (tCons (tVar 6) (tCons (tVar 7) (tCons (tCB (cTup K) (tCons (tVar 9) tNil)) tNil))))))))))))))
abbrev N_explain_ticket : List Str := ["setup", "key", "record", "ticket", "spend", "person", "offer", "c", "r", "blinding", "found"]
def t_explain_ticket (K : PySem.W.Frag) (E : XK) (R_blinding_of R_request_of R_spend_of R_ticket_of : Con) : TS :=
    (tSeq (tAsg (tVar 2) (gTup K 4 (gCons (gName 5) (gCons (gName 6) (gCons (gName 7) (gCons (gName 8) gNil))))))
    (tSeq (tTry K (.ref (He.ga K "CloakError")) (fun W => (tSeq (tAsg (tCallS (spD K R_blinding_of) (WE W) (tCons (tVar 0) (tCons (tVar 2) (tCons (tVar 3) (tCons (tVar 4) tNil))))) (gName 9))
    (tSeq (tIfS (tTest (tOp rNe (tCallS (spD K R_request_of) (WE W0) (tCons (tVar 0) (tCons (tVar 5) (tCons (tVar 6) (tCons (tVar 9) tNil))))) (tVar 7))) (tRet (tC .non)) tNext)
    (tAsg (tTup (tCons (tCallS (spD K R_ticket_of) (WE W) (tCons (tVar 0) (tCons (tVar 1) (tCons (tVar 5) (tCons (tVar 6) (tCons (tVar 9) (tCons (tVar 8) tNil))))))) (tCons (tCallS (spD K R_spend_of) (WE W0) (tCons (tVar 0) (tCons (tVar 5) (tCons (tVar 9) (tCons (tOp (rIx K) (tVar 4) (tC (.int 0))) tNil))))) tNil))) (gName 10))))) (fun _ _ _ => (tRet (tC .non))))
    (tSeq (tIfS (tTest (tOp (rNeD K) (tVar 10) (tTup (tCons (tVar 3) (tCons (tVar 4) tNil))))) (tRet (tC .non)) tNext)
    (tRet (tVar 9)))))
abbrev N_is_gate_name : List Str := ["text", "sign"]
def t_is_gate_name (K : PySem.W.Frag) (E : XK) : TS :=
    (tRet (tAndV (tChain aLe aLe (tC (.int 1)) (tCB (cLen K) (tCons (tVar 0) tNil)) (tC (.int 6))) (tCB (rAll K) (tCons (tLc (iStr (tVar 0)) (gName 1) tYes (tOp rSign (tVar 1) (tC (.str "abcdefghijklmnopqrstuvwxyz"))) [1]) tNil))))
abbrev N_check_context : List Str := ["context", "gate", "moment"]
def t_check_context (K : PySem.W.Frag) (E : XK) (R_is_gate_name : Con) : TS :=
    (tSeq (tAsg (tVar 0) (gTup K 2 (gCons (gName 1) (gCons (gName 2) gNil))))
    (tIfS (tOr (tNot (tB (tCallS (spD K R_is_gate_name) (WE W0) (tCons (tVar 1) tNil)))) (tOr (tTest (tOp aLt (tVar 2) (tC (.int 0)))) (tTest (tOp aGt (tVar 2) (tC (.int 999999)))))) tNever tNext))
abbrev N_stage_numbers : List Str := ["context", "pairs", "pair"]
def t_stage_numbers (K : PySem.W.Frag) (E : XK) (R_check_context R_check_set R_index_of : Con) : TS :=
    (tSeq (tDrop (tCallS (spD K R_check_context) (WE W0) (tCons (tVar 0) tNil)))
    (tSeq (tDrop (tCallS (spD K R_check_set) (WE W0) (tCons (tVar 1) tNil)))
    (tRet (tOp rCat (tLst (tCons (tOp (rIx K) (tVar 0) (tC (.int 1))) (tCons (tCB (cLen K) (tCons (tVar 1) tNil)) tNil))) (tLc (iSeq K (tVar 1)) (gName 2) tYes (tCallS (spD K R_index_of) (WE W0) (tCons (tVar 2) tNil)) [2])))))
abbrev N_stage_challenge : List Str := ["setup", "context", "pairs", "numbers"]
def t_stage_challenge (K : PySem.W.Frag) (E : XK) (R_stage_numbers R_challenge_of : Con) : TS :=
    (tSeq (tAsg (tCallS (spD K R_stage_numbers) (WE W0) (tCons (tVar 1) (tCons (tVar 2) tNil))) (gName 3))
    (tRet (tCallS (spD K R_challenge_of) (WE W0) (tCons (tOp (rIx K) (tVar 0) (tC (.int 0))) (tCons (tOp rAddS (tC (.str "show ")) (tOp (rIx K) (tVar 1) (tC (.int 0)))) (tCons (tVar 3) tNil))))))
abbrev N_choice_of : List Str := ["setup", "ticket", "pairs", "claims", "q", "bases", "age", "zone", "base"]
def t_choice_of (K : PySem.W.Frag) (E : XK) (R_check_set R_is_element R_product_of_powers : Con) : TS :=
    (tSeq (tDrop (tCallS (spD K R_check_set) (WE W0) (tCons (tVar 2) tNil)))
    (tSeq (tAsg (tVar 0) (gTup K 2 (gCons (gName 4) (gCons (gName 5) gNil))))
    (tSeq (tIfS (tOr (tTest (tOp rEq (tCB (cLen K) (tCons (tVar 2) tNil)) (tC (.int 0)))) (tNot (tB (tCallS (spD K R_is_element) (WE W0) (tCons (tVar 4) (tCons (tOp (rIx K) (tVar 1) (tC (.int 0))) tNil)))))) tNever tNext)
    (tSeq (tAsg (tLst tNil) (gName 3))
    (tSeq (tFor (iSeq K (tVar 2)) (gTup K 2 (gCons (gName 6) (gCons (gName 7) gNil))) (tSeq (tAsg (tCallS (spD K R_product_of_powers) (WE W0) (tCons (tVar 4) (tCons (tLst (tCons (tOp (rIx K) (tVar 5) (tC (.int 1))) (tCons (tOp (rIx K) (tVar 5) (tC (.int 3))) (tCons (tOp (rIx K) (tVar 5) (tC (.int 4))) tNil)))) (tCons (tLst (tCons (tC (.int 1)) (tCons (tVar 6) (tCons (tVar 7) tNil)))) tNil)))) (gName 8))
    (tDrop (tBM K "list" rAppend (tVar 3) (tCons (tTup (tCons (tC (.int 2)) (tCons (tTup (tCons (tTup (tCons (tOp (rIx K) (tVar 1) (tC (.int 0))) (tCons (tTup (tCons (tVar 8) (tCons (tOp (rIx K) (tVar 5) (tC (.int 2))) tNil))) tNil))) tNil)) tNil))) tNil)))))
    (tRet (tCB (cTup K) (tCons (tVar 3) tNil))))))))
abbrev N_paper_text : List Str := ["context", "pairs", "ticket", "spend", "numbers"]
def t_paper_text (K : PySem.W.Frag) (E : XK) (R_stage_numbers R_joined_text : Con) : TS :=
    (tSeq (tAsg (tCallS (spD K R_stage_numbers) (WE W0) (tCons (tVar 0) (tCons (tVar 1) tNil))) (gName 4))
    (tSeq (tAsg (tOp rCat (tOp rCat (tOp rCat (tVar 4) (tCB (cLst K) (tCons (tVar 2) tNil))) (tLst (tCons (tOp (rIx K) (tVar 3) (tC (.int 0))) tNil))) (tCB (cLst K) (tCons (tOp (rIx K) (tVar 3) (tC (.int 1))) tNil))) (gName 4))
    (tRet (tCallS (spD K R_joined_text) (WE W0) (tCons (tOp rAddS (tC (.str "paper ")) (tOp (rIx K) (tVar 0) (tC (.int 0)))) (tCons (tVar 4) tNil))))))
abbrev N_make_showing : List Str := ["setup", "person", "ticket", "blinding", "context", "pairs", "noise", "d", "spend", "choice", "values", "text", "paper"]
def t_make_showing (K : PySem.W.Frag) (E : XK) (R_stage_challenge R_spend_of R_choice_of R_paper_text R_make_paper : Con) : TS :=
    (tSeq (tAsg (tCallS (spD K R_stage_challenge) (WE W0) (tCons (tVar 0) (tCons (tVar 4) (tCons (tVar 5) tNil)))) (gName 7))
    (tSeq (tIfS (tTest (tOp (rNotInD K) (tSl (rSlA K) (tVar 1) (tPart (tC (.int 1))) tNoPart) (tVar 5))) tNever tNext)
    (tSeq (tAsg (tCallS (spD K R_spend_of) (WE W0) (tCons (tVar 0) (tCons (tVar 1) (tCons (tVar 3) (tCons (tVar 7) tNil))))) (gName 8))
    (tSeq (tAsg (tCallS (spD K R_choice_of) (WE W0) (tCons (tVar 0) (tCons (tVar 2) (tCons (tVar 5) tNil)))) (gName 9))
    (tSeq (tAsg (tTup (tCons (tOp (rIx K) (tVar 3) (tC (.int 0))) (tCons (tOp aMod (tOp aMul (tOp (rIx K) (tVar 3) (tC (.int 0))) (tOp (rIx K) (tVar 1) (tC (.int 0)))) (tOp (rIx K) (tVar 0) (tC (.int 0)))) tNil))) (gName 10))
    (tSeq (tAsg (tCallS (spD K R_paper_text) (WE W0) (tCons (tVar 4) (tCons (tVar 5) (tCons (tVar 2) (tCons (tVar 8) tNil))))) (gName 11))
    (tSeq (tAsg (tCallS (spD K R_make_paper) (WE W0) (tCons (tOp (rIx K) (tVar 0) (tC (.int 0))) (tCons (tVar 11) (tCons (tVar 9) (tCons (tBM K "list" (rIndexD K) (tVar 5) (tCons (tSl (rSlA K) (tVar 1) (tPart (tC (.int 1))) tNoPart) tNil)) (tCons (tVar 10) (tCons (tVar 6) tNil))))))) (gName 12))
    (tRet (tTup (tCons (tVar 2) (tCons (tVar 8) (tCons (tVar 12) tNil))))))))))))
abbrev N_check_showing : List Str := ["setup", "key", "context", "pairs", "showing", "d", "text", "ticket", "spend", "paper"]
def t_check_showing (K : PySem.W.Frag) (E : XK) (R_stage_challenge R_is_ticket R_is_spend R_paper_text R_choice_of R_check_paper : Con) : TS :=
    (tSeq (tAsg (tCallS (spD K R_stage_challenge) (WE W0) (tCons (tVar 0) (tCons (tVar 2) (tCons (tVar 3) tNil)))) (gName 5))
    (tSeq (tIfS (tTest (tOp rEq (tCB (cLen K) (tCons (tVar 3) tNil)) (tC (.int 0)))) tNever tNext)
    (tSeq (tAsg (tVar 4) (gTup K 3 (gCons (gName 7) (gCons (gName 8) (gCons (gName 9) gNil)))))
    (tSeq (tIfS (tNot (tB (tCallS (spD K R_is_ticket) (WE W0) (tCons (tVar 0) (tCons (tVar 1) (tCons (tVar 7) tNil)))))) tNever tNext)
    (tSeq (tIfS (tOr (tTest (tOp rNe (tOp (rIx K) (tVar 8) (tC (.int 0))) (tVar 5))) (tNot (tB (tCallS (spD K R_is_spend) (WE W0) (tCons (tVar 0) (tCons (tVar 7) (tCons (tVar 8) tNil))))))) tNever tNext)
    (tSeq (tAsg (tCallS (spD K R_paper_text) (WE W0) (tCons (tVar 2) (tCons (tVar 3) (tCons (tVar 7) (tCons (tVar 8) tNil))))) (gName 6))
    (tDrop (tCallS (spD K R_check_paper) (WE W0) (tCons (tOp (rIx K) (tVar 0) (tC (.int 0))) (tCons (tVar 6) (tCons (tCallS (spD K R_choice_of) (WE W0) (tCons (tVar 0) (tCons (tVar 7) (tCons (tVar 3) tNil)))) (tCons (tVar 9) tNil))))))))))))
abbrev N_explain_showing : List Str := ["setup", "key", "record", "context", "pairs", "showing", "person", "blinding", "choice", "values", "text", "noise", "ticket", "spend", "paper"]
def t_explain_showing (K : PySem.W.Frag) (E : XK) (R_check_showing R_explain_ticket R_choice_of R_paper_text R_explain_paper : Con) : TS :=
    (tSeq (tDrop (tCallS (spD K R_check_showing) (WE W0) (tCons (tVar 0) (tCons (tVar 1) (tCons (tVar 3) (tCons (tVar 4) (tCons (tVar 5) tNil)))))))
    (tSeq (tAsg (tOp (rIx K) (tVar 2) (tC (.int 0))) (gName 6))
    (tSeq (tIfS (tTest (tOp (rNotInD K) (tSl (rSlA K) (tVar 6) (tPart (tC (.int 1))) tNoPart) (tVar 4))) (tRet (tC .non)) tNext)
    (tSeq (tAsg (tVar 5) (gTup K 3 (gCons (gName 12) (gCons (gName 13) (gCons (gName 14) gNil)))))
    (tSeq (tAsg (tCallS (spD K R_explain_ticket) (WE W0) (tCons (tVar 0) (tCons (tVar 1) (tCons (tVar 2) (tCons (tVar 12) (tCons (tVar 13) tNil)))))) (gName 7))
    (tSeq (tIfS (tTest (tOp rIsN (tVar 7) (tC .non))) (tRet (tC .non)) tNext)
    (tSeq (tAsg (tCallS (spD K R_choice_of) (WE W0) (tCons (tVar 0) (tCons (tVar 12) (tCons (tVar 4) tNil)))) (gName 8))
    (tSeq (tAsg (tTup (tCons (tOp (rIx K) (tVar 7) (tC (.int 0))) (tCons (tOp aMod (tOp aMul (tOp (rIx K) (tVar 7) (tC (.int 0))) (tOp (rIx K) (tVar 6) (tC (.int 0)))) (tOp (rIx K) (tVar 0) (tC (.int 0)))) tNil))) (gName 9))
    (tSeq (tAsg (tCallS (spD K R_paper_text) (WE W0) (tCons (tVar 3) (tCons (tVar 4) (tCons (tVar 12) (tCons (tVar 13) tNil))))) (gName 10))
    (tSeq (tAsg (tCallS (spD K R_explain_paper) (WE W0) (tCons (tOp (rIx K) (tVar 0) (tC (.int 0))) (tCons (tVar 10) (tCons (tVar 8) (tCons (tVar 14) (tCons (tBM K "list" (rIndexD K) (tVar 4) (tCons (tSl (rSlA K) (tVar 6) (tPart (tC (.int 1))) tNoPart) tNil)) (tCons (tVar 9) tNil))))))) (gName 11))
    (tRet (tTup (tCons (tVar 7) (tCons (tVar 11) tNil))))))))))))))
abbrev N__law_row : List Str := ["_law_script", "_law_row_here", "_law_k", "_law_cell", "_law_turn", "_law_mixed"]
def t__law_row (K : PySem.W.Frag) (E : XK) : TS :=
    (tSeq (tAsg (tLst tNil) (gName 1))
    (tSeq (tFor (iRng1 (tCons (tCB (cLen K) (tCons (tVar 0) tNil)) tNil)) (gName 2) (tSeq (tAsg (tCB cAbs (tCons (tCB cInt (tCons (tOp (rIx K) (tVar 0) (tVar 2)) tNil)) tNil)) (gName 3))
    (tIfS (tTest (tOp aGe (tVar 3) (tOp aPow (tC (.int 10)) (tC (.int 18))))) (tFor (iRng1 (tCons (tC (.int 40)) tNil)) (gName 4) (tIfS (tTest (tOp aGt (tVar 3) (tC (.int 0)))) (tSeq (tDrop (tBM K "list" rAppend (tVar 1) (tCons (tOp aMod (tCB cInt (tCons (tVar 3) tNil)) (tC (.int 1009))) tNil)))
    (tAsg (tOp aDiv (tVar 3) (tC (.int 1009))) (gName 3))) tNext)) (tSeq (tAsg (tOp aMod (tCB cInt (tCons (tOp aAdd (tOp aAdd (tOp aMul (tVar 3) (tC (.int 48271))) (tOp aMul (tVar 2) (tC (.int 69621)))) (tC (.int 12345))) tNil)) (tC (.int 2147483647))) (gName 5))
    (tFor (iRng1 (tCons (tC (.int 6)) tNil)) (gName 4) (tSeq (tAsg (tOp aMod (tCB cInt (tCons (tOp aAdd (tOp aAdd (tOp aMul (tVar 5) (tC (.int 16807))) (tOp aMul (tC (.int 11)) (tVar 4))) (tC (.int 1))) tNil)) (tC (.int 2147483647))) (gName 5))
    (tDrop (tBM K "list" rAppend (tVar 1) (tCons (tOp aMod (tCB cInt (tCons (tOp aDiv (tVar 5) (tC (.int 7))) tNil)) (tC (.int 1009))) tNil)))))))))
    (tRet (tVar 1))))
abbrev N__law_at : List Str := ["_law_row_here", "_law_at_here"]
def t__law_at (K : PySem.W.Frag) (E : XK) : TS :=
    (tSeq (tIfS (tTest (tChain aLe aLt (tC (.int 0)) (tVar 1) (tCB (cLen K) (tCons (tVar 0) tNil)))) (tRet (tOp (rIx K) (tVar 0) (tVar 1))) tNext)
    (tRet (tC (.int 0))))
abbrev N__law_setup : List Str := ["_law_row_here", "_law_q"]
def t__law_setup (K : PySem.W.Frag) (E : XK) (R__law_at R_setup_of : Con) : TS :=
    (tSeq (tAsg (tOp (rIx K) (tLst (tCons (tC (.int 11)) (tCons (tC (.int 23)) (tCons (tC (.int 29)) (tCons (tC (.int 41)) (tCons (tC (.int 53)) (tCons (tC (.int 83)) (tCons (tC (.int 89)) (tCons (tC (.int 113)) tNil))))))))) (tOp aMod (tCB cInt (tCons (tCallS (spD K R__law_at) (WE W0) (tCons (tVar 0) (tCons (tC (.int 0)) tNil))) tNil)) (tC (.int 8)))) (gName 1))
    (tRet (tCallS (spD K R_setup_of) (WE W0) (tCons (tVar 1) (tCons (tCB cInt (tCons (tCallS (spD K R__law_at) (WE W0) (tCons (tVar 0) (tCons (tC (.int 1)) tNil))) tNil)) tNil)))))
abbrev N__law_person : List Str := ["_law_setup_here", "_law_row_here", "_law_at_here", "_law_person_here", "_law_k"]
def t__law_person (K : PySem.W.Frag) (E : XK) (R__law_at R_mark_of : Con) : TS :=
    (tSeq (tAsg (tTup (tCons (tOp aMod (tCB cInt (tCons (tCallS (spD K R__law_at) (WE W0) (tCons (tVar 1) (tCons (tVar 2) tNil))) tNil)) (tOp (rIx K) (tVar 0) (tC (.int 0)))) (tCons (tOp aMod (tCB cInt (tCons (tCallS (spD K R__law_at) (WE W0) (tCons (tVar 1) (tCons (tOp aAdd (tVar 2) (tC (.int 1))) tNil))) tNil)) (tC (.int 5))) (tCons (tOp aMod (tCB cInt (tCons (tCallS (spD K R__law_at) (WE W0) (tCons (tVar 1) (tCons (tOp aAdd (tVar 2) (tC (.int 2))) tNil))) tNil)) (tC (.int 5))) tNil)))) (gName 3))
    (tSeq (tFor (iRng1 (tCons (tC (.int 3)) tNil)) (gName 4) (tTry K (.ref (He.ga K "NotAllowed")) (fun W => (tSeq (tDrop (tCallS (spD K R_mark_of) (WE W) (tCons (tVar 0) (tCons (tVar 3) tNil))))
    (tRet (tVar 3)))) (fun _ _ _ => (tAsg (tTup (tCons (tOp aMod (tCB cInt (tCons (tOp aAdd (tOp (rIx K) (tVar 3) (tC (.int 0))) (tC (.int 1))) tNil)) (tOp (rIx K) (tVar 0) (tC (.int 0)))) (tCons (tOp (rIx K) (tVar 3) (tC (.int 1))) (tCons (tOp (rIx K) (tVar 3) (tC (.int 2))) tNil)))) (gName 3)))))
    (tRet (tVar 3))))
abbrev N__law_session : List Str := ["_law_setup_here", "_law_secret", "_law_person_here", "_law_row_here", "_law_at_here", "_law_q", "_law_draws", "_law_rest", "_law_blinding", "_law_w", "_law_offer", "_law_c", "_law_r", "_law_ticket", "_law_k"]
def t__law_session (K : PySem.W.Frag) (E : XK) (R__law_at R_offer_of R_request_of R_grant_of R_key_of R_ticket_of : Con) : TS :=
    (tSeq (tAsg (tOp (rIx K) (tVar 0) (tC (.int 0))) (gName 5))
    (tSeq (tAsg (tLc (iRng1 (tCons (tC (.int 8)) tNil)) (gName 14) tYes (tCB cInt (tCons (tCallS (spD K R__law_at) (WE W0) (tCons (tVar 3) (tCons (tOp aAdd (tVar 4) (tVar 14)) tNil))) tNil)) [14]) (gName 6))
    (tSeq (tAsg (tCB (cTup K) (tCons (tLc (iRng1 (tCons (tC (.int 4)) tNil)) (gName 14) tYes (tOp aMod (tOp (rIx K) (tVar 6) (tOp aAdd (tC (.int 4)) (tVar 14))) (tVar 5)) [14]) tNil)) (gName 7))
    (tSeq (tAsg (tTup (tCons (tOp aAdd (tC (.int 1)) (tOp aMod (tOp (rIx K) (tVar 6) (tC (.int 0))) (tOp aSub (tVar 5) (tC (.int 1))))) (tCons (tOp aAdd (tC (.int 1)) (tOp aMod (tOp (rIx K) (tVar 6) (tC (.int 1))) (tOp aSub (tVar 5) (tC (.int 1))))) (tCons (tOp aMod (tOp (rIx K) (tVar 6) (tC (.int 2))) (tVar 5)) (tCons (tVar 7) tNil))))) (gName 8))
    (tSeq (tAsg (tOp aMod (tOp (rIx K) (tVar 6) (tC (.int 3))) (tVar 5)) (gName 9))
    (tSeq (tAsg (tCallS (spD K R_offer_of) (WE W0) (tCons (tVar 0) (tCons (tVar 1) (tCons (tVar 2) (tCons (tVar 9) tNil))))) (gName 10))
    (tSeq (tAsg (tCallS (spD K R_request_of) (WE W0) (tCons (tVar 0) (tCons (tVar 2) (tCons (tVar 10) (tCons (tVar 8) tNil))))) (gName 11))
    (tSeq (tAsg (tCallS (spD K R_grant_of) (WE W0) (tCons (tVar 0) (tCons (tVar 1) (tCons (tVar 9) (tCons (tVar 11) tNil))))) (gName 12))
    (tSeq (tAsg (tCallS (spD K R_ticket_of) (WE W0) (tCons (tVar 0) (tCons (tCallS (spD K R_key_of) (WE W0) (tCons (tVar 0) (tCons (tVar 1) tNil))) (tCons (tVar 2) (tCons (tVar 10) (tCons (tVar 8) (tCons (tVar 12) tNil))))))) (gName 13))
    (tRet (tTup (tCons (tVar 13) (tCons (tVar 8) (tCons (tTup (tCons (tVar 2) (tCons (tVar 10) (tCons (tVar 11) (tCons (tVar 12) tNil))))) tNil))))))))))))))
abbrev N__law_pairs : List Str := ["_law_row_here", "_law_at_here", "_law_person_here", "_law_pairs_here", "_law_index"]
def t__law_pairs (K : PySem.W.Frag) (E : XK) (R__law_at : Con) : TS :=
    (tSeq (tAsg (tLst tNil) (gName 3))
    (tSeq (tFor (iRng1 (tCons (tC (.int 25)) tNil)) (gName 4) (tIfS (tOr (tTest (tOp rEq (tOp aMod (tOp aDiv (tCB cInt (tCons (tCallS (spD K R__law_at) (WE W0) (tCons (tVar 0) (tCons (tOp aAdd (tVar 1) (tOp aDiv (tVar 4) (tC (.int 5)))) tNil))) tNil)) (tOp aAdd (tC (.int 1)) (tOp aMod (tVar 4) (tC (.int 5))))) (tC (.int 3))) (tC (.int 0)))) (tTest (tOp (rEqD K) (tTup (tCons (tOp aDiv (tVar 4) (tC (.int 5))) (tCons (tOp aMod (tVar 4) (tC (.int 5))) tNil))) (tSl (rSlA K) (tVar 2) (tPart (tC (.int 1))) tNoPart)))) (tDrop (tBM K "list" rAppend (tVar 3) (tCons (tTup (tCons (tOp aDiv (tVar 4) (tC (.int 5))) (tCons (tOp aMod (tVar 4) (tC (.int 5))) tNil))) tNil))) tNext))
    (tRet (tVar 3))))
abbrev N__law_noise : List Str := ["_law_q", "_law_pairs_here", "_law_own", "_law_row_here", "_law_at_here", "_law_noise_here", "_law_k", "_law_c"]
def t__law_noise (K : PySem.W.Frag) (E : XK) (R__law_at : Con) : TS :=
    (tSeq (tAsg (tLst tNil) (gName 5))
    (tSeq (tFor (iRng1 (tCons (tCB (cLen K) (tCons (tVar 1) tNil)) tNil)) (gName 6) (tSeq (tAsg (tOp aMod (tCB cInt (tCons (tCallS (spD K R__law_at) (WE W0) (tCons (tVar 3) (tCons (tOp aAdd (tVar 4) (tOp aMul (tC (.int 3)) (tVar 6))) tNil))) tNil)) (tVar 0)) (gName 7))
    (tSeq (tIfS (tTest (tOp (rEqD K) (tOp (rIx K) (tVar 1) (tVar 6)) (tVar 2))) (tAsg (tC (.int 0)) (gName 7)) tNext)
    (tDrop (tBM K "list" rAppend (tVar 5) (tCons (tTup (tCons (tVar 7) (tCons (tTup (tCons (tOp aMod (tCB cInt (tCons (tCallS (spD K R__law_at) (WE W0) (tCons (tVar 3) (tCons (tOp aAdd (tOp aAdd (tVar 4) (tOp aMul (tC (.int 3)) (tVar 6))) (tC (.int 1))) tNil))) tNil)) (tVar 0)) (tCons (tOp aMod (tCB cInt (tCons (tCallS (spD K R__law_at) (WE W0) (tCons (tVar 3) (tCons (tOp aAdd (tOp aAdd (tVar 4) (tOp aMul (tC (.int 3)) (tVar 6))) (tC (.int 2))) tNil))) tNil)) (tVar 0)) tNil))) tNil))) tNil))))))
    (tRet (tCB (cTup K) (tCons (tVar 5) tNil)))))
abbrev N__law_replayed : List Str := ["_law_setup_here", "_law_key", "_law_record", "_law_context", "_law_pairs_here", "_law_blinding", "_law_noise_here", "_law_person_here", "_law_offer", "_law_c", "_law_r", "_law_ticket"]
def t__law_replayed (K : PySem.W.Frag) (E : XK) (R_request_of R_ticket_of R_make_showing : Con) : TS :=
    (tSeq (tAsg (tVar 2) (gTup K 4 (gCons (gName 7) (gCons (gName 8) (gCons (gName 9) (gCons (gName 10) gNil))))))
    (tSeq (tSeq (tIfS (tTest (tOp rNe (tCallS (spD K R_request_of) (WE W0) (tCons (tVar 0) (tCons (tVar 7) (tCons (tVar 8) (tCons (tVar 5) tNil))))) (tVar 9))) (tRet (tC (.str "other request"))) tNext)
    (tAsg (tCallS (spD K R_ticket_of) (WE W0) (tCons (tVar 0) (tCons (tVar 1) (tCons (tVar 7) (tCons (tVar 8) (tCons (tVar 5) (tCons (tVar 10) tNil))))))) (gName 11)))
    (tRet (tCallS (spD K R_make_showing) (WE W0) (tCons (tVar 0) (tCons (tVar 7) (tCons (tVar 11) (tCons (tVar 5) (tCons (tVar 3) (tCons (tVar 4) (tCons (tVar 6) tNil)))))))))))
abbrev N__law_varied : List Str := ["_law_blinding", "_law_noise_here", "_law_number", "_law_q", "_law_own", "_law_at_here", "_law_which", "_law_pairs_here", "_law_least", "_law_numbers", "_law_rest", "_law_pair"]
def t__law_varied (K : PySem.W.Frag) (E : XK) : TS :=
    (tSeq (tAsg (tOp aMod (tCB cInt (tCons (tVar 2) tNil)) (tC (.int 10))) (gName 5))
    (tSeq (tIfS (tTest (tOp aLt (tVar 5) (tC (.int 3)))) (tSeq (tAsg (tCB cInt (tCons (tOp aLt (tVar 5) (tC (.int 2))) tNil)) (gName 8))
    (tSeq (tAsg (tCB (cLst K) (tCons (tSl (rSlA K) (tVar 0) tNoPart (tPart (tC (.int 3)))) tNil)) (gName 9))
    (tSeq (tAsg (tOp aAdd (tVar 8) (tOp aMod (tCB cInt (tCons (tOp aAdd (tOp aSub (tOp (rIx K) (tVar 9) (tVar 5)) (tVar 8)) (tC (.int 1))) tNil)) (tOp aSub (tVar 3) (tVar 8)))) (gSub (tVar 9) (tVar 5) rSetL))
    (tRet (tTup (tCons (tOp (rCatA K) (tCB (cTup K) (tCons (tVar 9) tNil)) (tTup (tCons (tOp (rIx K) (tVar 0) (tC (.int 3))) tNil))) (tCons (tVar 1) tNil))))))) tNext)
    (tSeq (tIfS (tTest (tOp aLt (tVar 5) (tC (.int 7)))) (tSeq (tAsg (tCB (cLst K) (tCons (tOp (rIx K) (tVar 0) (tC (.int 3))) tNil)) (gName 10))
    (tSeq (tAsg (tOp aMod (tCB cInt (tCons (tOp aAdd (tOp (rIx K) (tVar 10) (tOp aSub (tVar 5) (tC (.int 3)))) (tC (.int 1))) tNil)) (tVar 3)) (gSub (tVar 10) (tOp aSub (tVar 5) (tC (.int 3))) rSetL))
    (tRet (tTup (tCons (tOp (rCatA K) (tSl (rSlA K) (tVar 0) tNoPart (tPart (tC (.int 3)))) (tTup (tCons (tCB (cTup K) (tCons (tVar 10) tNil)) tNil))) (tCons (tVar 1) tNil)))))) tNext)
    (tSeq (tAsg (tOp aMod (tOp aDiv (tCB cInt (tCons (tVar 2) tNil)) (tC (.int 10))) (tCB (cLen K) (tCons (tVar 1) tNil))) (gName 6))
    (tSeq (tAsg (tLc (iSeq K (tVar 1)) (gName 11) tYes (tTup (tCons (tOp (rIx K) (tVar 11) (tC (.int 0))) (tCons (tCB (cLst K) (tCons (tOp (rIx K) (tVar 11) (tC (.int 1))) tNil)) tNil))) [11]) (gName 7))
    (tSeq (tIfS (tAnd (tTest (tOp rEq (tVar 5) (tC (.int 7)))) (tTest (tOp rNe (tVar 6) (tVar 4)))) (tAsg (tTup (tCons (tOp aMod (tCB cInt (tCons (tOp aAdd (tOp (rIx K) (tOp (rIx K) (tVar 7) (tVar 6)) (tC (.int 0))) (tC (.int 1))) tNil)) (tVar 3)) (tCons (tOp (rIx K) (tOp (rIx K) (tVar 7) (tVar 6)) (tC (.int 1))) tNil))) (gSub (tVar 7) (tVar 6) rSetL)) (tAsg (tOp aMod (tCB cInt (tCons (tOp aAdd (tOp (rIx K) (tOp (rIx K) (tOp (rIx K) (tVar 7) (tVar 6)) (tC (.int 1))) (tOp aMod (tVar 5) (tC (.int 2)))) (tC (.int 1))) tNil)) (tVar 3)) (gSub (tOp (rIx K) (tOp (rIx K) (tVar 7) (tVar 6)) (tC (.int 1))) (tOp aMod (tVar 5) (tC (.int 2))) rSetL)))
    (tRet (tTup (tCons (tVar 0) (tCons (tCB (cTup K) (tCons (tLc (iSeq K (tVar 7)) (gName 11) tYes (tTup (tCons (tOp (rIx K) (tVar 11) (tC (.int 0))) (tCons (tCB (cTup K) (tCons (tOp (rIx K) (tVar 11) (tC (.int 1))) tNil)) tNil))) [11]) tNil)) tNil))))))))))
abbrev N_law : List Str := ["_law_script", "_law_row_here", "_law_setup_here", "_law_q", "_law_secrets", "_law_person_here", "_law_pairs_here", "_law_context", "_law_noise_here", "_law_showing", "_law_key", "_law_wrong", "_law_k", "_law_ticket", "_law_blinding", "_law_record", "_law_spoilt", "_law_other", "_law_secret", "_law_told", "_law_taken", "_law_hidden", "_law_seen", "_law_own", "_law_varied_here"]
def t_law (K : PySem.W.Frag) (E : XK) (R__law_row R__law_setup R__law_at R__law_person R__law_session R__law_pairs R__law_noise R_make_showing R_key_of R_explain_showing R_mark_of R__law_replayed R__law_varied : Con) : TS :=
    (tSeq (tAsg (tCallS (spD K R__law_row) (WE W0) (tCons (tVar 0) tNil)) (gName 1))
    (tSeq (tAsg (tCallS (spD K R__law_setup) (WE W0) (tCons (tVar 1) tNil)) (gName 2))
    (tSeq (tAsg (tOp (rIx K) (tVar 2) (tC (.int 0))) (gName 3))
    (tSeq (tAsg (tLst (tCons (tOp aAdd (tC (.int 1)) (tOp aMod (tCB cInt (tCons (tCallS (spD K R__law_at) (WE W0) (tCons (tVar 1) (tCons (tC (.int 2)) tNil))) tNil)) (tOp aSub (tVar 3) (tC (.int 1))))) (tCons (tOp aAdd (tC (.int 1)) (tOp aMod (tCB cInt (tCons (tCallS (spD K R__law_at) (WE W0) (tCons (tVar 1) (tCons (tC (.int 3)) tNil))) tNil)) (tOp aSub (tVar 3) (tC (.int 1))))) tNil))) (gName 4))
    (tSeq (tAsg (tCallS (spD K R__law_person) (WE W0) (tCons (tVar 2) (tCons (tVar 1) (tCons (tC (.int 4)) tNil)))) (gName 5))
    (tSeq (tAsg (tCallS (spD K R__law_session) (WE W0) (tCons (tVar 2) (tCons (tOp (rIx K) (tVar 4) (tC (.int 0))) (tCons (tVar 5) (tCons (tVar 1) (tCons (tC (.int 7)) tNil)))))) (gTup K 3 (gCons (gName 13) (gCons (gName 14) (gCons (gName 15) gNil)))))
    (tSeq (tAsg (tSl (rSlL K) (tCallS (spD K R__law_pairs) (WE W0) (tCons (tVar 1) (tCons (tC (.int 15)) (tCons (tVar 5) tNil)))) tNoPart (tPart (tOp (rIx K) (tLst (tCons (tC (.int 12)) (tCons (tC (.int 25)) tNil))) (tCB cInt (tCons (tOp rEq (tOp aMod (tCB cInt (tCons (tCallS (spD K R__law_at) (WE W0) (tCons (tVar 1) (tCons (tC (.int 29)) tNil))) tNil)) (tC (.int 8))) (tC (.int 0))) tNil))))) (gName 6))
    (tSeq (tIfS (tTest (tOp (rNotInD K) (tSl (rSlA K) (tVar 5) (tPart (tC (.int 1))) tNoPart) (tVar 6))) (tAsg (tLst (tCons (tSl (rSlA K) (tVar 5) (tPart (tC (.int 1))) tNoPart) tNil)) (gName 6)) tNext)
    (tSeq (tAsg (tTup (tCons (tOp (rIx K) (tLst (tCons (tC (.str "a")) (tCons (tC (.str "gate")) (tCons (tC (.str "zz")) tNil)))) (tOp aMod (tCB cInt (tCons (tCallS (spD K R__law_at) (WE W0) (tCons (tVar 1) (tCons (tC (.int 20)) tNil))) tNil)) (tC (.int 3)))) (tCons (tCB cInt (tCons (tCallS (spD K R__law_at) (WE W0) (tCons (tVar 1) (tCons (tC (.int 21)) tNil))) tNil)) tNil))) (gName 7))
    (tSeq (tAsg (tCallS (spD K R__law_noise) (WE W0) (tCons (tVar 3) (tCons (tVar 6) (tCons (tSl (rSlA K) (tVar 5) (tPart (tC (.int 1))) tNoPart) (tCons (tVar 1) (tCons (tC (.int 30)) tNil)))))) (gName 8))
    (tSeq (tAsg (tCallS (spD K R_make_showing) (WE W0) (tCons (tVar 2) (tCons (tVar 5) (tCons (tVar 13) (tCons (tVar 14) (tCons (tVar 7) (tCons (tVar 6) (tCons (tVar 8) tNil)))))))) (gName 9))
    (tSeq (tAsg (tCallS (spD K R_key_of) (WE W0) (tCons (tVar 2) (tCons (tOp (rIx K) (tVar 4) (tC (.int 0))) tNil))) (gName 10))
    (tSeq (tIfS (tTest (tOp (rNeD K) (tCallS (spD K R_explain_showing) (WE W0) (tCons (tVar 2) (tCons (tVar 10) (tCons (tVar 15) (tCons (tVar 7) (tCons (tVar 6) (tCons (tVar 9) tNil))))))) (tTup (tCons (tVar 14) (tCons (tVar 8) tNil))))) (tRet (tC (.bl false))) tNext)
    (tSeq (tFor (iSeq K (tLst (tCons (tTup (tCons (tOp aAdd (tOp (rIx K) (tVar 15) (tC (.int 2))) (tC (.int 1))) (tCons (tOp (rIx K) (tVar 15) (tC (.int 3))) tNil))) (tCons (tTup (tCons (tOp (rIx K) (tVar 15) (tC (.int 2))) (tCons (tOp aAdd (tOp (rIx K) (tVar 15) (tC (.int 3))) (tC (.int 1))) tNil))) (tCons (tTup (tCons (tOp aSub (tOp (rIx K) (tVar 15) (tC (.int 2))) (tC (.int 1))) (tCons (tOp (rIx K) (tVar 15) (tC (.int 3))) tNil))) (tCons (tTup (tCons (tOp (rIx K) (tVar 15) (tC (.int 2))) (tCons (tOp aSub (tOp (rIx K) (tVar 15) (tC (.int 3))) (tC (.int 1))) tNil))) tNil)))))) (gName 11) (tSeq (tAsg (tOp (rCatA K) (tSl (rSlA K) (tVar 15) tNoPart (tPart (tC (.int 2)))) (tTup (tCons (tOp aMod (tCB cInt (tCons (tOp (rIx K) (tVar 11) (tC (.int 0))) tNil)) (tVar 3)) (tCons (tOp aMod (tCB cInt (tCons (tOp (rIx K) (tVar 11) (tC (.int 1))) tNil)) (tVar 3)) tNil)))) (gName 16))
    (tIfS (tTest (tOp rNotN (tCallS (spD K R_explain_showing) (WE W0) (tCons (tVar 2) (tCons (tVar 10) (tCons (tVar 16) (tCons (tVar 7) (tCons (tVar 6) (tCons (tVar 9) tNil))))))) (tC .non))) (tRet (tC (.bl false))) tNext)))
    (tSeq (tFor (iRng1 (tCons (tOp aAdd (tC (.int 1)) (tOp aMod (tCB cInt (tCons (tCallS (spD K R__law_at) (WE W0) (tCons (tVar 1) (tCons (tC (.int 22)) tNil))) tNil)) (tC (.int 4)))) tNil)) (gName 12) (tSeq (tAsg (tCallS (spD K R__law_person) (WE W0) (tCons (tVar 2) (tCons (tVar 1) (tCons (tOp aAdd (tC (.int 80)) (tOp aMul (tC (.int 12)) (tVar 12))) tNil)))) (gName 17))
    (tSeq (tIfS (tTest (tOp rEq (tOp aMod (tCB cInt (tCons (tCallS (spD K R__law_at) (WE W0) (tCons (tVar 1) (tCons (tOp aAdd (tC (.int 83)) (tOp aMul (tC (.int 12)) (tVar 12))) tNil))) tNil)) (tC (.int 2))) (tC (.int 0)))) (tAsg (tTup (tCons (tOp (rIx K) (tVar 17) (tC (.int 0))) (tCons (tOp (rIx K) (tVar 5) (tC (.int 1))) (tCons (tOp (rIx K) (tVar 5) (tC (.int 2))) tNil)))) (gName 17)) tNext)
    (tSeq (tTry K (.ref (He.ga K "NotAllowed")) (fun W => (tDrop (tCallS (spD K R_mark_of) (WE W) (tCons (tVar 2) (tCons (tVar 17) tNil))))) (fun _ _ _ => (tAsg (tVar 5) (gName 17))))
    (tSeq (tAsg (tOp (rIx K) (tVar 4) (tOp aDiv (tOp aMod (tCB cInt (tCons (tCallS (spD K R__law_at) (WE W0) (tCons (tVar 1) (tCons (tOp aAdd (tC (.int 23)) (tVar 12)) tNil))) tNil)) (tC (.int 3))) (tC (.int 2)))) (gName 18))
    (tSeq (tAsg (tCallS (spD K R__law_session) (WE W0) (tCons (tVar 2) (tCons (tVar 18) (tCons (tVar 17) (tCons (tVar 1) (tCons (tOp aAdd (tC (.int 84)) (tOp aMul (tC (.int 12)) (tVar 12))) tNil)))))) (gTup K 3 (gCons (gName 20) (gCons (gName 21) (gCons (gName 22) gNil)))))
    (tSeq (tAsg (tCallS (spD K R_explain_showing) (WE W0) (tCons (tVar 2) (tCons (tVar 10) (tCons (tVar 22) (tCons (tVar 7) (tCons (tVar 6) (tCons (tVar 9) tNil))))))) (gName 19))
    (tIfS (tOr (tTest (tOp (rNotInD K) (tSl (rSlA K) (tVar 17) (tPart (tC (.int 1))) tNoPart) (tVar 6))) (tTest (tOp rNe (tVar 18) (tOp (rIx K) (tVar 4) (tC (.int 0)))))) (tIfS (tTest (tOp rNotN (tVar 19) (tC .non))) (tRet (tC (.bl false))) tNext) (tSeq (tIfS (tOr (tNot (tB (tCB RZ.rIsTy (tCons (tVar 19) (tCons (tC (.ty "tuple")) tNil))))) (tTest (tOp rNe (tCB (cLen K) (tCons (tVar 19) tNil)) (tC (.int 2))))) (tRet (tC (.bl false))) tNext)
    (tSeq (tIfS (tTest (tOp (rNeD K) (tCallS (spD K R__law_replayed) (WE W0) (tCons (tVar 2) (tCons (tVar 10) (tCons (tVar 22) (tCons (tVar 7) (tCons (tVar 6) (tCons (tOp (rIx K) (tVar 19) (tC (.int 0))) (tCons (tOp (rIx K) (tVar 19) (tC (.int 1))) tNil)))))))) (tVar 9))) (tRet (tC (.bl false))) tNext)
    (tSeq (tAsg (tBM K "list" (rIndexD K) (tVar 6) (tCons (tSl (rSlA K) (tVar 17) (tPart (tC (.int 1))) tNoPart) tNil)) (gName 23))
    (tSeq (tAsg (tCallS (spD K R__law_varied) (WE W0) (tCons (tOp (rIx K) (tVar 19) (tC (.int 0))) (tCons (tOp (rIx K) (tVar 19) (tC (.int 1))) (tCons (tCallS (spD K R__law_at) (WE W0) (tCons (tVar 1) (tCons (tOp aAdd (tC (.int 27)) (tVar 12)) tNil))) (tCons (tVar 3) (tCons (tVar 23) tNil)))))) (gName 24))
    (tIfS (tTest (tOp (rEqD K) (tCallS (spD K R__law_replayed) (WE W0) (tCons (tVar 2) (tCons (tVar 10) (tCons (tVar 22) (tCons (tVar 7) (tCons (tVar 6) (tCons (tOp (rIx K) (tVar 24) (tC (.int 0))) (tCons (tOp (rIx K) (tVar 24) (tC (.int 1))) tNil)))))))) (tVar 9))) (tRet (tC (.bl false))) tNext)))))))))))))
    (tRet (tC (.bl true))))))))))))))))))
end Ck

namespace Ck
open PySem PySem.Spec PyProof.Rows L2

theorem sc_coin : FnScope N_coin ["seed", "n", "text"] (defScope (topS 9)) := ⟨rfl, rfl, rfl, by decide +kernel, rfl, by decide +kernel, by decide +kernel⟩
theorem mk_coin {P : Program} {w : World} {K : PySem.W.Frag} {mg : Str → Option Value} {base : Heap} {R : Con} (T : Tx K mg) (F : Dn K mg "coin" "coin" (topS 9)) 
    (len : ∀ ds o, R ds o → ds.length = 3) (bd : ∀ E ds o, R ds o → Bd K E (t_coin K E ) (ro N_coin ds) o) : Cal P w K mg base "coin" 1 R :=
  cal_of (k := 0) F sc_coin len (fun _ _ _ _ _ _ us hl => match us, hl with | [_, _, _], _ => rfl) fun f cdv A outer s H E hr => ⟨t_coin K E , (by exact
      (pss_cons (ps_set (i := 3) sc_coin.nd rfl (Or.inl rfl) (pe_op op_mod (pe_op op_add (pe_op op_add (pe_op op_mul (pv 0) pe_int) (pe_op op_mul (pv 1) pe_int)) pe_int) (pe_gint T.gMODULUS)))
      (pss_cons (ps_for (passes_of rfl) rfl (pi_str (pv 2)) (pg_name (i := 4) sc_coin.nd rfl (Or.inl rfl)) (pss_one (ps_set (i := 3) sc_coin.nd rfl (Or.inl rfl) (pe_op op_mod (pe_op op_add (pe_op op_add (pe_op op_mul (pv 3) pe_int) (pe_callB k_ord (by rfl) T.fOrd b_ord (pa_cons (pv 4) pa_nil))) pe_int) (pe_gint T.gMODULUS)))))
      (pss_cons (ps_for (passes_of rfl) rfl (pi_range1 rfl T.fRange (pa_cons pe_int pa_nil)) (pg_name (i := 5) sc_coin.nd rfl (Or.inl rfl)) (pss_one (ps_set (i := 3) sc_coin.nd rfl (Or.inl rfl) (pe_op op_mod (pe_op op_add (pe_op op_mul (pv 3) pe_int) pe_int) (pe_gint T.gMODULUS)))))
      (pss_one (ps_ret (pe_op op_mod (pe_op op_fdiv (pv 3) pe_int) (pe_gint T.gSIDES)))))))), fun ds o h => bd E ds o h⟩
theorem sc_challenge : FnScope N_challenge ["q", "text"] (defScope (topS 10)) := ⟨rfl, rfl, rfl, by decide +kernel, rfl, by decide +kernel, by decide +kernel⟩
theorem mk_challenge {P : Program} {w : World} {K : PySem.W.Frag} {mg : Str → Option Value} {base : Heap} {R R_coin : Con} (T : Tx K mg) (F : Dn K mg "challenge" "challenge" (topS 10)) (c_coin : Cal P w K mg base "coin" 1 R_coin)
    (len : ∀ ds o, R ds o → ds.length = 2) (bd : ∀ E ds o, R ds o → Bd K E (t_challenge K E R_coin) (ro N_challenge ds) o) : Cal P w K mg base "challenge" 2 R :=
  cal_of (k := 1) F sc_challenge len (fun _ _ _ _ _ _ us hl => match us, hl with | [_, _], _ => rfl) fun f cdv A outer s H E hr => ⟨t_challenge K E R_coin, (by exact
      (pss_one (ps_ret (pe_op op_add pe_int (pe_op op_mod (pe_callD c_coin hr (by decide) (pa_cons pe_int (pa_cons (pv 0) (pa_cons (pv 1) pa_nil)))) (pe_op op_sub (pv 0) pe_int)))))), fun ds o h => bd E ds o h⟩
theorem sc_joined_text : FnScope N_joined_text ["word", "numbers"] (defScope (topS 11)) := ⟨rfl, rfl, rfl, by decide +kernel, rfl, by decide +kernel, by decide +kernel⟩
theorem mk_joined_text {P : Program} {w : World} {K : PySem.W.Frag} {mg : Str → Option Value} {base : Heap} {R : Con} (T : Tx K mg) (F : Dn K mg "joined_text" "joined_text" (topS 11)) 
    (len : ∀ ds o, R ds o → ds.length = 2) (bd : ∀ E ds o, R ds o → Bd K E (t_joined_text K E ) (ro N_joined_text ds) o) : Cal P w K mg base "joined_text" 1 R :=
  cal_of (k := 0) F sc_joined_text len (fun _ _ _ _ _ _ us hl => match us, hl with | [_, _], _ => rfl) fun f cdv A outer s H E hr => ⟨t_joined_text K E , (by exact
      (pss_one (ps_ret (pe_m1 PySem.F.slot_str_join PySem.F.type_str_join m_join pe_str (pe_op op_cat (pe_lst (pa_cons (pv 0) pa_nil)) (pe_lc (own := [("number", 2)]) rfl sc_joined_text.nd (pi_seq (pv 1)) (blkOk_by (own := [("number", 2)]) (N := N_joined_text) (sc := defScope (topS 11)) (by decide +kernel)) (fun _ _ _ _ _ => (pg_name (i := 2) sc_joined_text.nd rfl (Or.inl rfl))) (fun _ _ _ _ _ => pts_nil) (fun _ _ _ _ _ => (pe_callTy k_str (by rfl) T.fStr b_str (pa_cons (pv 2) pa_nil))))))))), fun ds o h => bd E ds o h⟩
theorem sc_challenge_of : FnScope N_challenge_of ["q", "word", "numbers"] (defScope (topS 12)) := ⟨rfl, rfl, rfl, by decide +kernel, rfl, by decide +kernel, by decide +kernel⟩
theorem mk_challenge_of {P : Program} {w : World} {K : PySem.W.Frag} {mg : Str → Option Value} {base : Heap} {R R_joined_text R_challenge : Con} (T : Tx K mg) (F : Dn K mg "challenge_of" "challenge_of" (topS 12)) (c_joined_text : Cal P w K mg base "joined_text" 1 R_joined_text) (c_challenge : Cal P w K mg base "challenge" 2 R_challenge)
    (len : ∀ ds o, R ds o → ds.length = 3) (bd : ∀ E ds o, R ds o → Bd K E (t_challenge_of K E R_joined_text R_challenge) (ro N_challenge_of ds) o) : Cal P w K mg base "challenge_of" 3 R :=
  cal_of (k := 2) F sc_challenge_of len (fun _ _ _ _ _ _ us hl => match us, hl with | [_, _, _], _ => rfl) fun f cdv A outer s H E hr => ⟨t_challenge_of K E R_joined_text R_challenge, (by exact
      (pss_one (ps_ret (pe_callD c_challenge hr (by decide) (pa_cons (pv 0) (pa_cons (pe_callD c_joined_text hr (by decide) (pa_cons (pv 1) (pa_cons (pv 2) pa_nil))) pa_nil)))))), fun ds o h => bd E ds o h⟩
theorem sc_raised : FnScope N_raised ["base", "exponent", "modulus"] (defScope (topS 15)) := ⟨rfl, rfl, rfl, by decide +kernel, rfl, by decide +kernel, by decide +kernel⟩
theorem mk_raised {P : Program} {w : World} {K : PySem.W.Frag} {mg : Str → Option Value} {base : Heap} {R : Con} (T : Tx K mg) (F : Dn K mg "raised" "raised" (topS 15)) 
    (len : ∀ ds o, R ds o → ds.length = 3) (bd : ∀ E ds o, R ds o → Bd K E (t_raised K E ) (ro N_raised ds) o) : Cal P w K mg base "raised" 1 R :=
  cal_of (k := 0) F sc_raised len (fun _ _ _ _ _ _ us hl => match us, hl with | [_, _, _], _ => rfl) fun f cdv A outer s H E hr => ⟨t_raised K E , (by exact
      (pss_cons (ps_set (i := 3) sc_raised.nd rfl (Or.inl rfl) pe_int)
      (pss_cons (ps_set (i := 4) sc_raised.nd rfl (Or.inl rfl) (pe_op op_mod (pv 0) (pv 2)))
      (pss_cons (ps_while (passes_of rfl) (pt_cmpR op_gt (pv 1) pe_int (nomark _)) (pss_cons (ps_if (pt_cmpR op_eq (pe_op op_mod (pv 1) pe_int) pe_int (nomark _)) (pss_one (ps_set (i := 3) sc_raised.nd rfl (Or.inl rfl) (pe_op op_mod (pe_op op_mul (pv 3) (pv 4)) (pv 2)))) pss_nil)
      (pss_cons (ps_set (i := 4) sc_raised.nd rfl (Or.inl rfl) (pe_op op_mod (pe_op op_mul (pv 4) (pv 4)) (pv 2)))
      (pss_one (ps_aug (i := 1) sc_raised.nd rfl (Or.inl rfl) pe_int iop_fdiv)))))
      (pss_one (ps_ret (pv 3))))))), fun ds o h => bd E ds o h⟩
theorem sc_is_element : FnScope N_is_element ["q", "value"] (defScope (topS 16)) := ⟨rfl, rfl, rfl, by decide +kernel, rfl, by decide +kernel, by decide +kernel⟩
theorem mk_is_element {P : Program} {w : World} {K : PySem.W.Frag} {mg : Str → Option Value} {base : Heap} {R R_raised : Con} (T : Tx K mg) (F : Dn K mg "is_element" "is_element" (topS 16)) (c_raised : Cal P w K mg base "raised" 1 R_raised)
    (len : ∀ ds o, R ds o → ds.length = 2) (bd : ∀ E ds o, R ds o → Bd K E (t_is_element K E R_raised) (ro N_is_element ds) o) : Cal P w K mg base "is_element" 2 R :=
  cal_of (k := 1) F sc_is_element len (fun _ _ _ _ _ _ us hl => match us, hl with | [_, _], _ => rfl) fun f cdv A outer s H E hr => ⟨t_is_element K E R_raised, (by exact
      (pss_one (ps_ret (pe_and (pe_chain op_lt op_lt pe_int (pv 1) (pe_op op_add (pe_op op_mul pe_int (pv 0)) pe_int)) (pe_one (pe_cmpR op_eq (pe_callD c_raised hr (by decide) (pa_cons (pv 1) (pa_cons (pv 0) (pa_cons (pe_op op_add (pe_op op_mul pe_int (pv 0)) pe_int) pa_nil)))) pe_int (nomark _))))))), fun ds o h => bd E ds o h⟩
theorem sc_check_element : FnScope N_check_element ["q", "value"] (defScope (topS 17)) := ⟨rfl, rfl, rfl, by decide +kernel, rfl, by decide +kernel, by decide +kernel⟩
theorem mk_check_element {P : Program} {w : World} {K : PySem.W.Frag} {mg : Str → Option Value} {base : Heap} {R R_is_element : Con} (T : Tx K mg) (F : Dn K mg "check_element" "check_element" (topS 17)) (c_is_element : Cal P w K mg base "is_element" 2 R_is_element)
    (len : ∀ ds o, R ds o → ds.length = 2) (bd : ∀ E ds o, R ds o → Bd K E (t_check_element K E R_is_element) (ro N_check_element ds) o) : Cal P w K mg base "check_element" 3 R :=
  cal_of (k := 2) F sc_check_element len (fun _ _ _ _ _ _ us hl => match us, hl with | [_, _], _ => rfl) fun f cdv A outer s H E hr => ⟨t_check_element K E R_is_element, (by exact
      (pss_one (ps_if (pt_not (pt_val (pe_callD c_is_element hr (by decide) (pa_cons (pv 0) (pa_cons (pv 1) pa_nil))))) (pss_one ps_never) pss_nil))), fun ds o h => bd E ds o h⟩
theorem sc_power : FnScope N_power ["q", "base", "exponent"] (defScope (topS 18)) := ⟨rfl, rfl, rfl, by decide +kernel, rfl, by decide +kernel, by decide +kernel⟩
theorem mk_power {P : Program} {w : World} {K : PySem.W.Frag} {mg : Str → Option Value} {base : Heap} {R R_check_element R_raised : Con} (T : Tx K mg) (F : Dn K mg "power" "power" (topS 18)) (c_check_element : Cal P w K mg base "check_element" 3 R_check_element) (c_raised : Cal P w K mg base "raised" 1 R_raised)
    (len : ∀ ds o, R ds o → ds.length = 3) (bd : ∀ E ds o, R ds o → Bd K E (t_power K E R_check_element R_raised) (ro N_power ds) o) : Cal P w K mg base "power" 4 R :=
  cal_of (k := 3) F sc_power len (fun _ _ _ _ _ _ us hl => match us, hl with | [_, _, _], _ => rfl) fun f cdv A outer s H E hr => ⟨t_power K E R_check_element R_raised, (by exact
      (pss_cons (ps_expr (pe_callD c_check_element hr (by decide) (pa_cons (pv 0) (pa_cons (pv 1) pa_nil))))
      (pss_one (ps_ret (pe_callD c_raised hr (by decide) (pa_cons (pv 1) (pa_cons (pe_op op_mod (pv 2) (pv 0)) (pa_cons (pe_op op_add (pe_op op_mul pe_int (pv 0)) pe_int) pa_nil)))))))), fun ds o h => bd E ds o h⟩
theorem sc_product : FnScope N_product ["q", "first", "second"] (defScope (topS 19)) := ⟨rfl, rfl, rfl, by decide +kernel, rfl, by decide +kernel, by decide +kernel⟩
theorem mk_product {P : Program} {w : World} {K : PySem.W.Frag} {mg : Str → Option Value} {base : Heap} {R R_check_element : Con} (T : Tx K mg) (F : Dn K mg "product" "product" (topS 19)) (c_check_element : Cal P w K mg base "check_element" 3 R_check_element)
    (len : ∀ ds o, R ds o → ds.length = 3) (bd : ∀ E ds o, R ds o → Bd K E (t_product K E R_check_element) (ro N_product ds) o) : Cal P w K mg base "product" 4 R :=
  cal_of (k := 3) F sc_product len (fun _ _ _ _ _ _ us hl => match us, hl with | [_, _, _], _ => rfl) fun f cdv A outer s H E hr => ⟨t_product K E R_check_element, (by exact
      (pss_cons (ps_expr (pe_callD c_check_element hr (by decide) (pa_cons (pv 0) (pa_cons (pv 1) pa_nil))))
      (pss_cons (ps_expr (pe_callD c_check_element hr (by decide) (pa_cons (pv 0) (pa_cons (pv 2) pa_nil))))
      (pss_one (ps_ret (pe_op op_mod (pe_op op_mul (pv 1) (pv 2)) (pe_op op_add (pe_op op_mul pe_int (pv 0)) pe_int))))))), fun ds o h => bd E ds o h⟩
theorem sc_product_of_powers : FnScope N_product_of_powers ["q", "bases", "exponents"] (defScope (topS 20)) := ⟨rfl, rfl, rfl, by decide +kernel, rfl, by decide +kernel, by decide +kernel⟩
theorem mk_product_of_powers {P : Program} {w : World} {K : PySem.W.Frag} {mg : Str → Option Value} {base : Heap} {R R_power : Con} (T : Tx K mg) (F : Dn K mg "product_of_powers" "product_of_powers" (topS 20)) (c_power : Cal P w K mg base "power" 4 R_power)
    (len : ∀ ds o, R ds o → ds.length = 3) (bd : ∀ E ds o, R ds o → Bd K E (t_product_of_powers K E R_power) (ro N_product_of_powers ds) o) : Cal P w K mg base "product_of_powers" 5 R :=
  cal_of (k := 4) F sc_product_of_powers len (fun _ _ _ _ _ _ us hl => match us, hl with | [_, _, _], _ => rfl) fun f cdv A outer s H E hr => ⟨t_product_of_powers K E R_power, (by exact
      (pss_cons (ps_if (pt_cmpR op_ne (pe_callB k_len (by rfl) T.fLen b_len (pa_cons (pv 1) pa_nil)) (pe_callB k_len (by rfl) T.fLen b_len (pa_cons (pv 2) pa_nil)) (nomark _)) (pss_one ps_never) pss_nil)
      (pss_cons (ps_set (i := 3) sc_product_of_powers.nd rfl (Or.inl rfl) pe_int)
      (pss_cons (ps_for (passes_of rfl) rfl (RZ.pi_zipA rfl T.fZip (pa_cons (pv 1) (pa_cons (pv 2) pa_nil))) (pg_tup rfl (pgs_cons (pg_name (i := 4) sc_product_of_powers.nd rfl (Or.inl rfl)) (pgs_cons (pg_name (i := 5) sc_product_of_powers.nd rfl (Or.inl rfl)) pgs_nil))) (pss_one (ps_set (i := 3) sc_product_of_powers.nd rfl (Or.inl rfl) (pe_op op_mod (pe_op op_mul (pv 3) (pe_callD c_power hr (by decide) (pa_cons (pv 0) (pa_cons (pv 4) (pa_cons (pv 5) pa_nil))))) (pe_op op_add (pe_op op_mul pe_int (pv 0)) pe_int)))))
      (pss_one (ps_ret (pv 3))))))), fun ds o h => bd E ds o h⟩
theorem sc_inverse : FnScope N_inverse ["q", "value"] (defScope (topS 21)) := ⟨rfl, rfl, rfl, by decide +kernel, rfl, by decide +kernel, by decide +kernel⟩
theorem mk_inverse {P : Program} {w : World} {K : PySem.W.Frag} {mg : Str → Option Value} {base : Heap} {R R_power : Con} (T : Tx K mg) (F : Dn K mg "inverse" "inverse" (topS 21)) (c_power : Cal P w K mg base "power" 4 R_power)
    (len : ∀ ds o, R ds o → ds.length = 2) (bd : ∀ E ds o, R ds o → Bd K E (t_inverse K E R_power) (ro N_inverse ds) o) : Cal P w K mg base "inverse" 5 R :=
  cal_of (k := 4) F sc_inverse len (fun _ _ _ _ _ _ us hl => match us, hl with | [_, _], _ => rfl) fun f cdv A outer s H E hr => ⟨t_inverse K E R_power, (by exact
      (pss_one (ps_ret (pe_callD c_power hr (by decide) (pa_cons (pv 0) (pa_cons (pv 1) (pa_cons (pe_un un_neg pe_int) pa_nil))))))), fun ds o h => bd E ds o h⟩
theorem sc_logarithm : FnScope N_logarithm ["q", "base", "value"] (defScope (topS 22)) := ⟨rfl, rfl, rfl, by decide +kernel, rfl, by decide +kernel, by decide +kernel⟩
theorem mk_logarithm {P : Program} {w : World} {K : PySem.W.Frag} {mg : Str → Option Value} {base : Heap} {R R_check_element : Con} (T : Tx K mg) (F : Dn K mg "logarithm" "logarithm" (topS 22)) (c_check_element : Cal P w K mg base "check_element" 3 R_check_element)
    (len : ∀ ds o, R ds o → ds.length = 3) (bd : ∀ E ds o, R ds o → Bd K E (t_logarithm K E R_check_element) (ro N_logarithm ds) o) : Cal P w K mg base "logarithm" 4 R :=
  cal_of (k := 3) F sc_logarithm len (fun _ _ _ _ _ _ us hl => match us, hl with | [_, _, _], _ => rfl) fun f cdv A outer s H E hr => ⟨t_logarithm K E R_check_element, (by exact
      (pss_cons (ps_expr (pe_callD c_check_element hr (by decide) (pa_cons (pv 0) (pa_cons (pv 1) pa_nil))))
      (pss_cons (ps_expr (pe_callD c_check_element hr (by decide) (pa_cons (pv 0) (pa_cons (pv 2) pa_nil))))
      (pss_cons (ps_if (pt_cmpR op_eq (pv 1) pe_int (nomark _)) (pss_one ps_never) pss_nil)
      (pss_cons (ps_set (i := 3) sc_logarithm.nd rfl (Or.inl rfl) pe_int)
      (pss_cons (ps_set (i := 4) sc_logarithm.nd rfl (Or.inl rfl) pe_int)
      (pss_cons (ps_while (passes_of rfl) (pt_cmpR op_ne (pv 4) (pv 2) (nomark _)) (pss_cons (ps_set (i := 4) sc_logarithm.nd rfl (Or.inl rfl) (pe_op op_mod (pe_op op_mul (pv 4) (pv 1)) (pe_op op_add (pe_op op_mul pe_int (pv 0)) pe_int)))
      (pss_one (ps_aug (i := 3) sc_logarithm.nd rfl (Or.inl rfl) pe_int iop_add))))
      (pss_one (ps_ret (pv 3)))))))))), fun ds o h => bd E ds o h⟩
theorem sc_quotient : FnScope N_quotient ["q", "first", "second"] (defScope (topS 23)) := ⟨rfl, rfl, rfl, by decide +kernel, rfl, by decide +kernel, by decide +kernel⟩
theorem mk_quotient {P : Program} {w : World} {K : PySem.W.Frag} {mg : Str → Option Value} {base : Heap} {R R_raised : Con} (T : Tx K mg) (F : Dn K mg "quotient" "quotient" (topS 23)) (c_raised : Cal P w K mg base "raised" 1 R_raised)
    (len : ∀ ds o, R ds o → ds.length = 3) (bd : ∀ E ds o, R ds o → Bd K E (t_quotient K E R_raised) (ro N_quotient ds) o) : Cal P w K mg base "quotient" 2 R :=
  cal_of (k := 1) F sc_quotient len (fun _ _ _ _ _ _ us hl => match us, hl with | [_, _, _], _ => rfl) fun f cdv A outer s H E hr => ⟨t_quotient K E R_raised, (by exact
      (pss_cons (ps_if (pt_cmpR op_eq (pe_op op_mod (pv 2) (pv 0)) pe_int (nomark _)) (pss_one (ps_raiseNA T rfl (takes_of rfl rfl rfl rfl))) pss_nil)
      (pss_one (ps_ret (pe_op op_mod (pe_op op_mul (pv 1) (pe_callD c_raised hr (by decide) (pa_cons (pv 2) (pa_cons (pe_op op_sub (pv 0) pe_int) (pa_cons (pv 0) pa_nil))))) (pv 0)))))), fun ds o h => bd E ds o h⟩
theorem sc_setup_of : FnScope N_setup_of ["q", "seed"] (defScope (topS 24)) := ⟨rfl, rfl, rfl, by decide +kernel, rfl, by decide +kernel, by decide +kernel⟩
theorem mk_setup_of {P : Program} {w : World} {K : PySem.W.Frag} {mg : Str → Option Value} {base : Heap} {R R_coin R_power : Con} (T : Tx K mg) (F : Dn K mg "setup_of" "setup_of" (topS 24)) (c_coin : Cal P w K mg base "coin" 1 R_coin) (c_power : Cal P w K mg base "power" 4 R_power)
    (len : ∀ ds o, R ds o → ds.length = 2) (bd : ∀ E ds o, R ds o → Bd K E (t_setup_of K E R_coin R_power) (ro N_setup_of ds) o) : Cal P w K mg base "setup_of" 5 R :=
  cal_of (k := 4) F sc_setup_of len (fun _ _ _ _ _ _ us hl => match us, hl with | [_, _], _ => rfl) fun f cdv A outer s H E hr => ⟨t_setup_of K E R_coin R_power, (by exact
      (pss_one (ps_ret (pe_tup (pa_cons (pv 0) (pa_cons (pe_callTy k_tuple (by rfl) T.fTuple b_tuple (pa_cons (pe_lc (own := [("at", 2)]) rfl sc_setup_of.nd (pi_range1 rfl T.fRange (pa_cons (pe_gint T.gBASES) pa_nil)) (blkOk_by (own := [("at", 2)]) (N := N_setup_of) (sc := defScope (topS 24)) (by decide +kernel)) (fun _ _ _ _ _ => (pg_name (i := 2) sc_setup_of.nd rfl (Or.inl rfl))) (fun _ _ _ _ _ => pts_nil) (fun _ _ _ _ _ => (pe_callD c_power hr (by decide) (pa_cons (pv 0) (pa_cons pe_int (pa_cons (pe_op op_add pe_int (pe_op op_mod (pe_callD c_coin hr (by decide) (pa_cons (pv 1) (pa_cons (pv 2) (pa_cons pe_str pa_nil)))) (pe_op op_sub (pv 0) pe_int))) pa_nil)))))) pa_nil)) pa_nil)))))), fun ds o h => bd E ds o h⟩
theorem sc_is_exponent_claims : FnScope N_is_exponent_claims ["q", "number"] (defScope (topS 26)) := ⟨rfl, rfl, rfl, by decide +kernel, rfl, by decide +kernel, by decide +kernel⟩
theorem mk_is_exponent_claims {P : Program} {w : World} {K : PySem.W.Frag} {mg : Str → Option Value} {base : Heap} {R : Con} (T : Tx K mg) (F : Dn K mg "is_exponent_claims" "is_exponent" (topS 26)) 
    (len : ∀ ds o, R ds o → ds.length = 2) (bd : ∀ E ds o, R ds o → Bd K E (t_is_exponent_claims K E ) (ro N_is_exponent_claims ds) o) : Cal P w K mg base "is_exponent_claims" 1 R :=
  cal_of (k := 0) F sc_is_exponent_claims len (fun _ _ _ _ _ _ us hl => match us, hl with | [_, _], _ => rfl) fun f cdv A outer s H E hr => ⟨t_is_exponent_claims K E , (by exact
      (pss_one (ps_ret (pe_chain op_le op_lt pe_int (pv 1) (pv 0))))), fun ds o h => bd E ds o h⟩
theorem sc_are_values : FnScope N_are_values ["q", "claim", "values"] (defScope (topS 28)) := ⟨rfl, rfl, rfl, by decide +kernel, rfl, by decide +kernel, by decide +kernel⟩
theorem mk_are_values {P : Program} {w : World} {K : PySem.W.Frag} {mg : Str → Option Value} {base : Heap} {R R_is_exponent_claims : Con} (T : Tx K mg) (F : Dn K mg "are_values" "are_values" (topS 28)) (c_is_exponent_claims : Cal P w K mg base "is_exponent_claims" 1 R_is_exponent_claims)
    (len : ∀ ds o, R ds o → ds.length = 3) (bd : ∀ E ds o, R ds o → Bd K E (t_are_values K E R_is_exponent_claims) (ro N_are_values ds) o) : Cal P w K mg base "are_values" 2 R :=
  cal_of (k := 1) F sc_are_values len (fun _ _ _ _ _ _ us hl => match us, hl with | [_, _, _], _ => rfl) fun f cdv A outer s H E hr => ⟨t_are_values K E R_is_exponent_claims, (by exact
      (pss_one (ps_ret (pe_and (pe_cmpR op_eq (pe_callB k_len (by rfl) T.fLen b_len (pa_cons (pv 2) pa_nil)) (pe_ix ix_seq (pv 1) pe_int (fun _ _ => rfl)) (nomark _)) (pe_one (pe_callB (cr_all rfl) (by rfl) T.fAll b_all (pa_cons (pe_lc (own := [("value", 3)]) rfl sc_are_values.nd (pi_seq (pv 2)) (blkOk_by (own := [("value", 3)]) (N := N_are_values) (sc := defScope (topS 28)) (by decide +kernel)) (fun _ _ _ _ _ => (pg_name (i := 3) sc_are_values.nd rfl (Or.inl rfl))) (fun _ _ _ _ _ => pts_nil) (fun _ _ _ _ _ => (pe_callD c_is_exponent_claims hr (by decide) (pa_cons (pv 0) (pa_cons (pv 3) pa_nil))))) pa_nil))))))), fun ds o h => bd E ds o h⟩
theorem sc_check_values : FnScope N_check_values ["q", "claim", "values"] (defScope (topS 29)) := ⟨rfl, rfl, rfl, by decide +kernel, rfl, by decide +kernel, by decide +kernel⟩
theorem mk_check_values {P : Program} {w : World} {K : PySem.W.Frag} {mg : Str → Option Value} {base : Heap} {R R_are_values : Con} (T : Tx K mg) (F : Dn K mg "check_values" "check_values" (topS 29)) (c_are_values : Cal P w K mg base "are_values" 2 R_are_values)
    (len : ∀ ds o, R ds o → ds.length = 3) (bd : ∀ E ds o, R ds o → Bd K E (t_check_values K E R_are_values) (ro N_check_values ds) o) : Cal P w K mg base "check_values" 3 R :=
  cal_of (k := 2) F sc_check_values len (fun _ _ _ _ _ _ us hl => match us, hl with | [_, _, _], _ => rfl) fun f cdv A outer s H E hr => ⟨t_check_values K E R_are_values, (by exact
      (pss_one (ps_if (pt_not (pt_val (pe_callD c_are_values hr (by decide) (pa_cons (pv 0) (pa_cons (pv 1) (pa_cons (pv 2) pa_nil)))))) (pss_one ps_never) pss_nil))), fun ds o h => bd E ds o h⟩
theorem sc_holds : FnScope N_holds ["q", "claim", "values"] (defScope (topS 30)) := ⟨rfl, rfl, rfl, by decide +kernel, rfl, by decide +kernel, by decide +kernel⟩
theorem mk_holds {P : Program} {w : World} {K : PySem.W.Frag} {mg : Str → Option Value} {base : Heap} {R R_check_values R_product_of_powers : Con} (T : Tx K mg) (F : Dn K mg "holds" "holds" (topS 30)) (c_check_values : Cal P w K mg base "check_values" 3 R_check_values) (c_product_of_powers : Cal P w K mg base "product_of_powers" 5 R_product_of_powers)
    (len : ∀ ds o, R ds o → ds.length = 3) (bd : ∀ E ds o, R ds o → Bd K E (t_holds K E R_check_values R_product_of_powers) (ro N_holds ds) o) : Cal P w K mg base "holds" 6 R :=
  cal_of (k := 5) F sc_holds len (fun _ _ _ _ _ _ us hl => match us, hl with | [_, _, _], _ => rfl) fun f cdv A outer s H E hr => ⟨t_holds K E R_check_values R_product_of_powers, (by exact
      (pss_cons (ps_expr (pe_callD c_check_values hr (by decide) (pa_cons (pv 0) (pa_cons (pv 1) (pa_cons (pv 2) pa_nil)))))
      (pss_one (ps_ret (pe_callB (cr_all rfl) (by rfl) T.fAll b_all (pa_cons (pe_lc (own := [("y", 3), ("bases", 4)]) rfl sc_holds.nd (pi_seq (pe_ix ix_seq (pv 1) pe_int (fun _ _ => rfl))) (blkOk_by (own := [("y", 3), ("bases", 4)]) (N := N_holds) (sc := defScope (topS 30)) (by decide +kernel)) (fun _ _ _ _ _ => (pg_tup rfl (pgs_cons (pg_name (i := 3) sc_holds.nd rfl (Or.inl rfl)) (pgs_cons (pg_name (i := 4) sc_holds.nd rfl (Or.inl rfl)) pgs_nil)))) (fun _ _ _ _ _ => pts_nil) (fun _ _ _ _ _ => (pe_cmpR op_eq (pe_callD c_product_of_powers hr (by decide) (pa_cons (pv 0) (pa_cons (pe_callTy k_list (by rfl) T.fList b_list (pa_cons (pv 4) pa_nil)) (pa_cons (pe_callTy k_list (by rfl) T.fList b_list (pa_cons (pv 2) pa_nil)) pa_nil)))) (pv 3) (nomark _)))) pa_nil)))))), fun ds o h => bd E ds o h⟩
theorem sc_claim_numbers : FnScope N_claim_numbers ["claim"] (defScope (topS 31)) := ⟨rfl, rfl, rfl, by decide +kernel, rfl, by decide +kernel, by decide +kernel⟩
theorem mk_claim_numbers {P : Program} {w : World} {K : PySem.W.Frag} {mg : Str → Option Value} {base : Heap} {R : Con} (T : Tx K mg) (F : Dn K mg "claim_numbers" "claim_numbers" (topS 31)) 
    (len : ∀ ds o, R ds o → ds.length = 1) (bd : ∀ E ds o, R ds o → Bd K E (t_claim_numbers K E ) (ro N_claim_numbers ds) o) : Cal P w K mg base "claim_numbers" 1 R :=
  cal_of (k := 0) F sc_claim_numbers len (fun _ _ _ _ _ _ us hl => match us, hl with | [_], _ => rfl) fun f cdv A outer s H E hr => ⟨t_claim_numbers K E , (by exact
      (pss_cons (ps_set (i := 1) sc_claim_numbers.nd rfl (Or.inl rfl) (pe_lst (pa_cons (pe_ix ix_seq (pv 0) pe_int (fun _ _ => rfl)) (pa_cons (pe_callB k_len (by rfl) T.fLen b_len (pa_cons (pe_ix ix_seq (pv 0) pe_int (fun _ _ => rfl)) pa_nil)) pa_nil))))
      (pss_cons (ps_for (passes_of rfl) rfl (pi_seq (pe_ix ix_seq (pv 0) pe_int (fun _ _ => rfl))) (pg_tup rfl (pgs_cons (pg_name (i := 2) sc_claim_numbers.nd rfl (Or.inl rfl)) (pgs_cons (pg_name (i := 3) sc_claim_numbers.nd rfl (Or.inl rfl)) pgs_nil))) (pss_cons (ps_expr (pe_bm PySem.F.plainAttrs_list PySem.F.slot_list_append PySem.F.type_list_append mt_append (pv 1) (pa_cons (pv 2) pa_nil)))
      (pss_one (ps_expr (pe_bm PySem.F.plainAttrs_list PySem.F.slot_list_extend PySem.F.type_list_extend mt_extendT (pv 1) (pa_cons (pv 3) pa_nil))))))
      (pss_one (ps_ret (pv 1)))))), fun ds o h => bd E ds o h⟩
theorem sc_traces : FnScope N_traces ["q", "claim", "c", "answers"] (defScope (topS 32)) := ⟨rfl, rfl, rfl, by decide +kernel, rfl, by decide +kernel, by decide +kernel⟩
theorem mk_traces {P : Program} {w : World} {K : PySem.W.Frag} {mg : Str → Option Value} {base : Heap} {R R_is_exponent_claims R_check_values R_product_of_powers R_power R_inverse R_product : Con} (T : Tx K mg) (F : Dn K mg "traces" "traces" (topS 32)) (c_is_exponent_claims : Cal P w K mg base "is_exponent_claims" 1 R_is_exponent_claims) (c_check_values : Cal P w K mg base "check_values" 3 R_check_values) (c_product_of_powers : Cal P w K mg base "product_of_powers" 5 R_product_of_powers) (c_power : Cal P w K mg base "power" 4 R_power) (c_inverse : Cal P w K mg base "inverse" 5 R_inverse) (c_product : Cal P w K mg base "product" 4 R_product)
    (len : ∀ ds o, R ds o → ds.length = 4) (bd : ∀ E ds o, R ds o → Bd K E (t_traces K E R_is_exponent_claims R_check_values R_product_of_powers R_power R_inverse R_product) (ro N_traces ds) o) : Cal P w K mg base "traces" 6 R :=
  cal_of (k := 5) F sc_traces len (fun _ _ _ _ _ _ us hl => match us, hl with | [_, _, _, _], _ => rfl) fun f cdv A outer s H E hr => ⟨t_traces K E R_is_exponent_claims R_check_values R_product_of_powers R_power R_inverse R_product, (by exact
      (pss_cons (ps_if (pt_not (pt_val (pe_callD c_is_exponent_claims hr (by decide) (pa_cons (pv 0) (pa_cons (pv 2) pa_nil))))) (pss_one ps_never) pss_nil)
      (pss_cons (ps_expr (pe_callD c_check_values hr (by decide) (pa_cons (pv 0) (pa_cons (pv 1) (pa_cons (pv 3) pa_nil)))))
      (pss_cons (ps_set (i := 4) sc_traces.nd rfl (Or.inl rfl) (pe_lst pa_nil))
      (pss_cons (ps_for (passes_of rfl) rfl (pi_seq (pe_ix ix_seq (pv 1) pe_int (fun _ _ => rfl))) (pg_tup rfl (pgs_cons (pg_name (i := 5) sc_traces.nd rfl (Or.inl rfl)) (pgs_cons (pg_name (i := 6) sc_traces.nd rfl (Or.inl rfl)) pgs_nil))) (pss_cons (ps_set (i := 7) sc_traces.nd rfl (Or.inl rfl) (pe_callD c_product_of_powers hr (by decide) (pa_cons (pv 0) (pa_cons (pe_callTy k_list (by rfl) T.fList b_list (pa_cons (pv 6) pa_nil)) (pa_cons (pe_callTy k_list (by rfl) T.fList b_list (pa_cons (pv 3) pa_nil)) pa_nil)))))
      (pss_one (ps_expr (pe_bm PySem.F.plainAttrs_list PySem.F.slot_list_append PySem.F.type_list_append mt_append (pv 4) (pa_cons (pe_callD c_product hr (by decide) (pa_cons (pv 0) (pa_cons (pv 7) (pa_cons (pe_callD c_inverse hr (by decide) (pa_cons (pv 0) (pa_cons (pe_callD c_power hr (by decide) (pa_cons (pv 0) (pa_cons (pv 5) (pa_cons (pv 2) pa_nil)))) pa_nil))) pa_nil)))) pa_nil))))))
      (pss_one (ps_ret (pv 4)))))))), fun ds o h => bd E ds o h⟩
theorem sc_choice_numbers : FnScope N_choice_numbers ["choice"] (defScope (topS 34)) := ⟨rfl, rfl, rfl, by decide +kernel, rfl, by decide +kernel, by decide +kernel⟩
theorem mk_choice_numbers {P : Program} {w : World} {K : PySem.W.Frag} {mg : Str → Option Value} {base : Heap} {R R_claim_numbers : Con} (T : Tx K mg) (F : Dn K mg "choice_numbers" "choice_numbers" (topS 34)) (c_claim_numbers : Cal P w K mg base "claim_numbers" 1 R_claim_numbers)
    (len : ∀ ds o, R ds o → ds.length = 1) (bd : ∀ E ds o, R ds o → Bd K E (t_choice_numbers K E R_claim_numbers) (ro N_choice_numbers ds) o) : Cal P w K mg base "choice_numbers" 2 R :=
  cal_of (k := 1) F sc_choice_numbers len (fun _ _ _ _ _ _ us hl => match us, hl with | [_], _ => rfl) fun f cdv A outer s H E hr => ⟨t_choice_numbers K E R_claim_numbers, (by exact
      (pss_cons (ps_set (i := 1) sc_choice_numbers.nd rfl (Or.inl rfl) (pe_lst (pa_cons (pe_callB k_len (by rfl) T.fLen b_len (pa_cons (pv 0) pa_nil)) pa_nil)))
      (pss_cons (ps_for (passes_of rfl) rfl (pi_seq (pv 0)) (pg_name (i := 2) sc_choice_numbers.nd rfl (Or.inl rfl)) (pss_one (ps_expr (pe_bm PySem.F.plainAttrs_list PySem.F.slot_list_extend PySem.F.type_list_extend mt_extend (pv 1) (pa_cons (pe_callD c_claim_numbers hr (by decide) (pa_cons (pv 2) pa_nil)) pa_nil)))))
      (pss_one (ps_ret (pv 1)))))), fun ds o h => bd E ds o h⟩
theorem sc_has_form : FnScope N_has_form ["q", "choice", "paper"] (defScope (topS 35)) := ⟨rfl, rfl, rfl, by decide +kernel, rfl, by decide +kernel, by decide +kernel⟩
theorem mk_has_form {P : Program} {w : World} {K : PySem.W.Frag} {mg : Str → Option Value} {base : Heap} {R R_is_exponent_claims R_are_values : Con} (T : Tx K mg) (F : Dn K mg "has_form" "has_form" (topS 35)) (c_is_exponent_claims : Cal P w K mg base "is_exponent_claims" 1 R_is_exponent_claims) (c_are_values : Cal P w K mg base "are_values" 2 R_are_values)
    (len : ∀ ds o, R ds o → ds.length = 3) (bd : ∀ E ds o, R ds o → Bd K E (t_has_form K E R_is_exponent_claims R_are_values) (ro N_has_form ds) o) : Cal P w K mg base "has_form" 3 R :=
  cal_of (k := 2) F sc_has_form len (fun _ _ _ _ _ _ us hl => match us, hl with | [_, _, _], _ => rfl) fun f cdv A outer s H E hr => ⟨t_has_form K E R_is_exponent_claims R_are_values, (by exact
      (pss_cons (ps_if (pt_cmpR op_ne (pe_callB k_len (by rfl) T.fLen b_len (pa_cons (pv 2) pa_nil)) (pe_callB k_len (by rfl) T.fLen b_len (pa_cons (pv 1) pa_nil)) (nomark _)) (pss_one (ps_ret pe_bl)) pss_nil)
      (pss_cons (ps_for (passes_of rfl) rfl (RZ.pi_zipA rfl T.fZip (pa_cons (pv 1) (pa_cons (pv 2) pa_nil))) (pg_tup rfl (pgs_cons (pg_name (i := 3) sc_has_form.nd rfl (Or.inl rfl)) (pgs_cons (pg_name (i := 4) sc_has_form.nd rfl (Or.inl rfl)) pgs_nil))) (pss_one (ps_if (PW.pt (pw_or (pt_cmpR op_ne (pe_callB k_len (by rfl) T.fLen b_len (pa_cons (pv 4) pa_nil)) pe_int (nomark _)) (pw_or (pt_not (pt_val (pe_callD c_is_exponent_claims hr (by decide) (pa_cons (pv 0) (pa_cons (pe_ix ix_seq (pv 4) pe_int (fun _ _ => rfl)) pa_nil))))) (pw_or1 (pt_not (pt_val (pe_callD c_are_values hr (by decide) (pa_cons (pv 0) (pa_cons (pv 3) (pa_cons (pe_ix ix_seq (pv 4) pe_int (fun _ _ => rfl)) pa_nil)))))))))) (pss_one (ps_ret pe_bl)) pss_nil)))
      (pss_one (ps_ret pe_bl))))), fun ds o h => bd E ds o h⟩
theorem sc_call_of : FnScope N_call_of ["q", "text", "choice", "paper"] (defScope (topS 36)) := ⟨rfl, rfl, rfl, by decide +kernel, rfl, by decide +kernel, by decide +kernel⟩
theorem mk_call_of {P : Program} {w : World} {K : PySem.W.Frag} {mg : Str → Option Value} {base : Heap} {R R_choice_numbers R_traces R_challenge_of : Con} (T : Tx K mg) (F : Dn K mg "call_of" "call_of" (topS 36)) (c_choice_numbers : Cal P w K mg base "choice_numbers" 2 R_choice_numbers) (c_traces : Cal P w K mg base "traces" 6 R_traces) (c_challenge_of : Cal P w K mg base "challenge_of" 3 R_challenge_of)
    (len : ∀ ds o, R ds o → ds.length = 4) (bd : ∀ E ds o, R ds o → Bd K E (t_call_of K E R_choice_numbers R_traces R_challenge_of) (ro N_call_of ds) o) : Cal P w K mg base "call_of" 7 R :=
  cal_of (k := 6) F sc_call_of len (fun _ _ _ _ _ _ us hl => match us, hl with | [_, _, _, _], _ => rfl) fun f cdv A outer s H E hr => ⟨t_call_of K E R_choice_numbers R_traces R_challenge_of, (by exact
      (pss_cons (ps_set (i := 4) sc_call_of.nd rfl (Or.inl rfl) (pe_callD c_choice_numbers hr (by decide) (pa_cons (pv 2) pa_nil)))
      (pss_cons (ps_for (passes_of rfl) rfl (RZ.pi_zipA rfl T.fZip (pa_cons (pv 2) (pa_cons (pv 3) pa_nil))) (pg_tup rfl (pgs_cons (pg_name (i := 5) sc_call_of.nd rfl (Or.inl rfl)) (pgs_cons (pg_name (i := 6) sc_call_of.nd rfl (Or.inl rfl)) pgs_nil))) (pss_one (ps_expr (pe_bm PySem.F.plainAttrs_list PySem.F.slot_list_extend PySem.F.type_list_extend mt_extend (pv 4) (pa_cons (pe_callD c_traces hr (by decide) (pa_cons (pv 0) (pa_cons (pv 5) (pa_cons (pe_ix ix_seq (pv 6) pe_int (fun _ _ => rfl)) (pa_cons (pe_ix ix_seq (pv 6) pe_int (fun _ _ => rfl)) pa_nil))))) pa_nil)))))
      (pss_one (ps_ret (pe_callD c_challenge_of hr (by decide) (pa_cons (pv 0) (pa_cons (pe_op o_addS pe_str (pv 1)) (pa_cons (pv 4) pa_nil))))))))), fun ds o h => bd E ds o h⟩
theorem sc_check_maker : FnScope N_check_maker ["q", "choice", "index", "values"] (defScope (topS 37)) := ⟨rfl, rfl, rfl, by decide +kernel, rfl, by decide +kernel, by decide +kernel⟩
theorem mk_check_maker {P : Program} {w : World} {K : PySem.W.Frag} {mg : Str → Option Value} {base : Heap} {R R_are_values R_holds : Con} (T : Tx K mg) (F : Dn K mg "check_maker" "check_maker" (topS 37)) (c_are_values : Cal P w K mg base "are_values" 2 R_are_values) (c_holds : Cal P w K mg base "holds" 6 R_holds)
    (len : ∀ ds o, R ds o → ds.length = 4) (bd : ∀ E ds o, R ds o → Bd K E (t_check_maker K E R_are_values R_holds) (ro N_check_maker ds) o) : Cal P w K mg base "check_maker" 7 R :=
  cal_of (k := 6) F sc_check_maker len (fun _ _ _ _ _ _ us hl => match us, hl with | [_, _, _, _], _ => rfl) fun f cdv A outer s H E hr => ⟨t_check_maker K E R_are_values R_holds, (by exact
      (pss_cons (ps_if (PW.pt (pw_or (pt_cmpR op_lt (pv 2) pe_int (nomark _)) (pw_or (pt_cmpR op_ge (pv 2) (pe_callB k_len (by rfl) T.fLen b_len (pa_cons (pv 1) pa_nil)) (nomark _)) (pw_or1 (pt_not (pt_val (pe_callD c_are_values hr (by decide) (pa_cons (pv 0) (pa_cons (pe_ix ix_seq (pv 1) (pv 2) (fun _ _ => rfl)) (pa_cons (pv 3) pa_nil)))))))))) (pss_one ps_never) pss_nil)
      (pss_one (ps_if (pt_not (pt_val (pe_callD c_holds hr (by decide) (pa_cons (pv 0) (pa_cons (pe_ix ix_seq (pv 1) (pv 2) (fun _ _ => rfl)) (pa_cons (pv 3) pa_nil)))))) (pss_one ps_never) pss_nil)))), fun ds o h => bd E ds o h⟩
theorem sc_sum_of_others : FnScope N_sum_of_others ["paper", "index"] (defScope (topS 38)) := ⟨rfl, rfl, rfl, by decide +kernel, rfl, by decide +kernel, by decide +kernel⟩
theorem mk_sum_of_others {P : Program} {w : World} {K : PySem.W.Frag} {mg : Str → Option Value} {base : Heap} {R : Con} (T : Tx K mg) (F : Dn K mg "sum_of_others" "sum_of_others" (topS 38)) 
    (len : ∀ ds o, R ds o → ds.length = 2) (bd : ∀ E ds o, R ds o → Bd K E (t_sum_of_others K E ) (ro N_sum_of_others ds) o) : Cal P w K mg base "sum_of_others" 1 R :=
  cal_of (k := 0) F sc_sum_of_others len (fun _ _ _ _ _ _ us hl => match us, hl with | [_, _], _ => rfl) fun f cdv A outer s H E hr => ⟨t_sum_of_others K E , (by exact
      (pss_one (ps_ret (pe_callB (cr_sum rfl) (by rfl) T.fSum b_sum (pa_cons (pe_lc (own := [("at", 2), ("pair", 3)]) rfl sc_sum_of_others.nd (pi_enumT rfl T.fEnumerate (pa_cons (pv 0) pa_nil)) (blkOk_by (own := [("at", 2), ("pair", 3)]) (N := N_sum_of_others) (sc := defScope (topS 38)) (by decide +kernel)) (fun _ _ _ _ _ => (pg_tup rfl (pgs_cons (pg_name (i := 2) sc_sum_of_others.nd rfl (Or.inl rfl)) (pgs_cons (pg_name (i := 3) sc_sum_of_others.nd rfl (Or.inl rfl)) pgs_nil)))) (fun _ _ _ _ _ => (pts_one (pt_cmpR op_ne (pv 2) (pv 1) (nomark _)))) (fun _ _ _ _ _ => (pe_ix ix_seq (pv 3) pe_int (fun _ _ => rfl)))) pa_nil))))), fun ds o h => bd E ds o h⟩
theorem sc_make_paper : FnScope N_make_paper ["q", "text", "choice", "index", "values", "noise"] (defScope (topS 39)) := ⟨rfl, rfl, rfl, by decide +kernel, rfl, by decide +kernel, by decide +kernel⟩
theorem mk_make_paper {P : Program} {w : World} {K : PySem.W.Frag} {mg : Str → Option Value} {base : Heap} {R R_check_maker R_has_form R_call_of R_sum_of_others : Con} (T : Tx K mg) (F : Dn K mg "make_paper" "make_paper" (topS 39)) (c_check_maker : Cal P w K mg base "check_maker" 7 R_check_maker) (c_has_form : Cal P w K mg base "has_form" 3 R_has_form) (c_call_of : Cal P w K mg base "call_of" 7 R_call_of) (c_sum_of_others : Cal P w K mg base "sum_of_others" 1 R_sum_of_others)
    (len : ∀ ds o, R ds o → ds.length = 6) (bd : ∀ E ds o, R ds o → Bd K E (t_make_paper K E R_check_maker R_has_form R_call_of R_sum_of_others) (ro N_make_paper ds) o) : Cal P w K mg base "make_paper" 8 R :=
  cal_of (k := 7) F sc_make_paper len (fun _ _ _ _ _ _ us hl => match us, hl with | [_, _, _, _, _, _], _ => rfl) fun f cdv A outer s H E hr => ⟨t_make_paper K E R_check_maker R_has_form R_call_of R_sum_of_others, (by exact
      (pss_cons (ps_expr (pe_callD c_check_maker hr (by decide) (pa_cons (pv 0) (pa_cons (pv 2) (pa_cons (pv 3) (pa_cons (pv 4) pa_nil))))))
      (pss_cons (ps_if (PW.pt (pw_or (pt_not (pt_val (pe_callD c_has_form hr (by decide) (pa_cons (pv 0) (pa_cons (pv 2) (pa_cons (pv 5) pa_nil)))))) (pw_or1 (pt_cmpR op_ne (pe_ix ix_seq (pe_ix ix_seq (pv 5) (pv 3) (fun _ _ => rfl)) pe_int (fun _ _ => rfl)) pe_int (nomark _))))) (pss_one ps_never) pss_nil)
      (pss_cons (ps_set (i := 6) sc_make_paper.nd rfl (Or.inr rfl) (pe_op op_mod (pe_op op_sub (pe_callD c_call_of hr (by decide) (pa_cons (pv 0) (pa_cons (pv 1) (pa_cons (pv 2) (pa_cons (pv 5) pa_nil))))) (pe_callD c_sum_of_others hr (by decide) (pa_cons (pv 5) (pa_cons (pv 3) pa_nil)))) (pv 0)))
      (pss_cons (ps_set (i := 7) sc_make_paper.nd rfl (Or.inl rfl) (pe_callTy k_tuple (by rfl) T.fTuple b_tuple (pa_cons (pe_lc (own := [("n", 8), ("x", 9)]) rfl sc_make_paper.nd (RZ.pi_zipA rfl T.fZip (pa_cons (pe_ix ix_seq (pe_ix ix_seq (pv 5) (pv 3) (fun _ _ => rfl)) pe_int (fun _ _ => rfl)) (pa_cons (pv 4) pa_nil))) (blkOk_by (own := [("n", 8), ("x", 9)]) (N := N_make_paper) (sc := defScope (topS 39)) (by decide +kernel)) (fun _ _ _ _ _ => (pg_tup rfl (pgs_cons (pg_name (i := 8) sc_make_paper.nd rfl (Or.inl rfl)) (pgs_cons (pg_name (i := 9) sc_make_paper.nd rfl (Or.inl rfl)) pgs_nil)))) (fun _ _ _ _ _ => pts_nil) (fun _ _ _ _ _ => (pe_op op_mod (pe_op op_add (pv 8) (pe_op op_mul (pv 6) (pv 9))) (pv 0)))) pa_nil)))
      (pss_one (ps_ret (pe_op op_catA (pe_op op_catA (pe_slice sl_tupA (pv 5) po_none (po_some (pv 3))) (pe_tup (pa_cons (pe_tup (pa_cons (pv 6) (pa_cons (pv 7) pa_nil))) pa_nil))) (pe_slice sl_tupA (pv 5) (po_some (pe_op op_add (pv 3) pe_int)) po_none))))))))), fun ds o h => bd E ds o h⟩
theorem sc_check_paper : FnScope N_check_paper ["q", "text", "choice", "paper"] (defScope (topS 40)) := ⟨rfl, rfl, rfl, by decide +kernel, rfl, by decide +kernel, by decide +kernel⟩
theorem mk_check_paper {P : Program} {w : World} {K : PySem.W.Frag} {mg : Str → Option Value} {base : Heap} {R R_has_form R_sum_of_others R_call_of : Con} (T : Tx K mg) (F : Dn K mg "check_paper" "check_paper" (topS 40)) (c_has_form : Cal P w K mg base "has_form" 3 R_has_form) (c_sum_of_others : Cal P w K mg base "sum_of_others" 1 R_sum_of_others) (c_call_of : Cal P w K mg base "call_of" 7 R_call_of)
    (len : ∀ ds o, R ds o → ds.length = 4) (bd : ∀ E ds o, R ds o → Bd K E (t_check_paper K E R_has_form R_sum_of_others R_call_of) (ro N_check_paper ds) o) : Cal P w K mg base "check_paper" 8 R :=
  cal_of (k := 7) F sc_check_paper len (fun _ _ _ _ _ _ us hl => match us, hl with | [_, _, _, _], _ => rfl) fun f cdv A outer s H E hr => ⟨t_check_paper K E R_has_form R_sum_of_others R_call_of, (by exact
      (pss_cons (ps_if (pt_not (pt_val (pe_callD c_has_form hr (by decide) (pa_cons (pv 0) (pa_cons (pv 2) (pa_cons (pv 3) pa_nil)))))) (pss_one ps_never) pss_nil)
      (pss_one (ps_if (pt_cmpR op_ne (pe_op op_mod (pe_op op_sub (pe_callD c_sum_of_others hr (by decide) (pa_cons (pv 3) (pa_cons (pe_un un_neg pe_int) pa_nil))) (pe_callD c_call_of hr (by decide) (pa_cons (pv 0) (pa_cons (pv 1) (pa_cons (pv 2) (pa_cons (pv 3) pa_nil)))))) (pv 0)) pe_int (nomark _)) (pss_one ps_never) pss_nil)))), fun ds o h => bd E ds o h⟩
theorem sc_explain_paper : FnScope N_explain_paper ["q", "text", "choice", "paper", "index", "values"] (defScope (topS 41)) := ⟨rfl, rfl, rfl, by decide +kernel, rfl, by decide +kernel, by decide +kernel⟩
theorem mk_explain_paper {P : Program} {w : World} {K : PySem.W.Frag} {mg : Str → Option Value} {base : Heap} {R R_check_paper R_check_maker : Con} (T : Tx K mg) (F : Dn K mg "explain_paper" "explain_paper" (topS 41)) (c_check_paper : Cal P w K mg base "check_paper" 8 R_check_paper) (c_check_maker : Cal P w K mg base "check_maker" 7 R_check_maker)
    (len : ∀ ds o, R ds o → ds.length = 6) (bd : ∀ E ds o, R ds o → Bd K E (t_explain_paper K E R_check_paper R_check_maker) (ro N_explain_paper ds) o) : Cal P w K mg base "explain_paper" 9 R :=
  cal_of (k := 8) F sc_explain_paper len (fun _ _ _ _ _ _ us hl => match us, hl with | [_, _, _, _, _, _], _ => rfl) fun f cdv A outer s H E hr => ⟨t_explain_paper K E R_check_paper R_check_maker, (by exact
      (pss_cons (ps_expr (pe_callD c_check_paper hr (by decide) (pa_cons (pv 0) (pa_cons (pv 1) (pa_cons (pv 2) (pa_cons (pv 3) pa_nil))))))
      (pss_cons (ps_expr (pe_callD c_check_maker hr (by decide) (pa_cons (pv 0) (pa_cons (pv 2) (pa_cons (pv 4) (pa_cons (pv 5) pa_nil))))))
      (pss_cons (ps_asg (pe_ix ix_seq (pv 3) (pv 4) (fun _ _ => rfl)) (pg_tup rfl (pgs_cons (pg_name (i := 7) sc_explain_paper.nd rfl (Or.inr rfl)) (pgs_cons (pg_name (i := 8) sc_explain_paper.nd rfl (Or.inl rfl)) pgs_nil))))
      (pss_cons (ps_set (i := 6) sc_explain_paper.nd rfl (Or.inl rfl) (pe_callTy k_tuple (by rfl) T.fTuple b_tuple (pa_cons (pe_lc (own := [("a", 9), ("x", 10)]) rfl sc_explain_paper.nd (RZ.pi_zipA rfl T.fZip (pa_cons (pv 8) (pa_cons (pv 5) pa_nil))) (blkOk_by (own := [("a", 9), ("x", 10)]) (N := N_explain_paper) (sc := defScope (topS 41)) (by decide +kernel)) (fun _ _ _ _ _ => (pg_tup rfl (pgs_cons (pg_name (i := 9) sc_explain_paper.nd rfl (Or.inl rfl)) (pgs_cons (pg_name (i := 10) sc_explain_paper.nd rfl (Or.inl rfl)) pgs_nil)))) (fun _ _ _ _ _ => pts_nil) (fun _ _ _ _ _ => (pe_op op_mod (pe_op op_sub (pv 9) (pe_op op_mul (pv 7) (pv 10))) (pv 0)))) pa_nil)))
      (pss_one (ps_ret (pe_op op_catA (pe_op op_catA (pe_slice sl_tupA (pv 3) po_none (po_some (pv 4))) (pe_tup (pa_cons (pe_tup (pa_cons pe_int (pa_cons (pv 6) pa_nil))) pa_nil))) (pe_slice sl_tupA (pv 3) (po_some (pe_op op_add (pv 4) pe_int)) po_none))))))))), fun ds o h => bd E ds o h⟩
theorem sc_is_pair : FnScope N_is_pair ["pair"] (defScope (topS 45)) := ⟨rfl, rfl, rfl, by decide +kernel, rfl, by decide +kernel, by decide +kernel⟩
theorem mk_is_pair {P : Program} {w : World} {K : PySem.W.Frag} {mg : Str → Option Value} {base : Heap} {R : Con} (T : Tx K mg) (F : Dn K mg "is_pair" "is_pair" (topS 45)) 
    (len : ∀ ds o, R ds o → ds.length = 1) (bd : ∀ E ds o, R ds o → Bd K E (t_is_pair K E ) (ro N_is_pair ds) o) : Cal P w K mg base "is_pair" 1 R :=
  cal_of (k := 0) F sc_is_pair len (fun _ _ _ _ _ _ us hl => match us, hl with | [_], _ => rfl) fun f cdv A outer s H E hr => ⟨t_is_pair K E , (by exact
      (pss_one (ps_ret (pe_and (pe_cmpR op_eq (pe_callB k_len (by rfl) T.fLen b_len (pa_cons (pv 0) pa_nil)) pe_int (nomark _)) (pe_and (pe_chain op_le op_lt pe_int (pe_ix ix_seq (pv 0) pe_int (fun _ _ => rfl)) (pe_gint T.gAGES)) (pe_one (pe_chain op_le op_lt pe_int (pe_ix ix_seq (pv 0) pe_int (fun _ _ => rfl)) (pe_gint T.gZONES)))))))), fun ds o h => bd E ds o h⟩
theorem sc_index_of : FnScope N_index_of ["pair"] (defScope (topS 46)) := ⟨rfl, rfl, rfl, by decide +kernel, rfl, by decide +kernel, by decide +kernel⟩
theorem mk_index_of {P : Program} {w : World} {K : PySem.W.Frag} {mg : Str → Option Value} {base : Heap} {R R_is_pair : Con} (T : Tx K mg) (F : Dn K mg "index_of" "index_of" (topS 46)) (c_is_pair : Cal P w K mg base "is_pair" 1 R_is_pair)
    (len : ∀ ds o, R ds o → ds.length = 1) (bd : ∀ E ds o, R ds o → Bd K E (t_index_of K E R_is_pair) (ro N_index_of ds) o) : Cal P w K mg base "index_of" 2 R :=
  cal_of (k := 1) F sc_index_of len (fun _ _ _ _ _ _ us hl => match us, hl with | [_], _ => rfl) fun f cdv A outer s H E hr => ⟨t_index_of K E R_is_pair, (by exact
      (pss_cons (ps_if (pt_not (pt_val (pe_callD c_is_pair hr (by decide) (pa_cons (pv 0) pa_nil)))) (pss_one ps_never) pss_nil)
      (pss_one (ps_ret (pe_op op_add (pe_op op_mul (pe_gint T.gZONES) (pe_ix ix_seq (pv 0) pe_int (fun _ _ => rfl))) (pe_ix ix_seq (pv 0) pe_int (fun _ _ => rfl))))))), fun ds o h => bd E ds o h⟩
theorem sc_check_set : FnScope N_check_set ["pairs"] (defScope (topS 47)) := ⟨rfl, rfl, rfl, by decide +kernel, rfl, by decide +kernel, by decide +kernel⟩
theorem mk_check_set {P : Program} {w : World} {K : PySem.W.Frag} {mg : Str → Option Value} {base : Heap} {R R_index_of : Con} (T : Tx K mg) (F : Dn K mg "check_set" "check_set" (topS 47)) (c_index_of : Cal P w K mg base "index_of" 2 R_index_of)
    (len : ∀ ds o, R ds o → ds.length = 1) (bd : ∀ E ds o, R ds o → Bd K E (t_check_set K E R_index_of) (ro N_check_set ds) o) : Cal P w K mg base "check_set" 3 R :=
  cal_of (k := 2) F sc_check_set len (fun _ _ _ _ _ _ us hl => match us, hl with | [_], _ => rfl) fun f cdv A outer s H E hr => ⟨t_check_set K E R_index_of, (by exact
      (pss_cons (ps_set (i := 1) sc_check_set.nd rfl (Or.inl rfl) (pe_un un_neg pe_int))
      (pss_one (ps_for (passes_of rfl) rfl (pi_seq (pv 0)) (pg_name (i := 2) sc_check_set.nd rfl (Or.inl rfl)) (pss_cons (ps_set (i := 3) sc_check_set.nd rfl (Or.inl rfl) (pe_callD c_index_of hr (by decide) (pa_cons (pv 2) pa_nil)))
      (pss_cons (ps_if (pt_cmpR op_le (pv 3) (pv 1) (nomark _)) (pss_one ps_never) pss_nil)
      (pss_one (ps_set (i := 1) sc_check_set.nd rfl (Or.inl rfl) (pv 3))))))))), fun ds o h => bd E ds o h⟩
theorem sc_is_exponent_passes : FnScope N_is_exponent_passes ["q", "value"] (defScope (topS 50)) := ⟨rfl, rfl, rfl, by decide +kernel, rfl, by decide +kernel, by decide +kernel⟩
theorem mk_is_exponent_passes {P : Program} {w : World} {K : PySem.W.Frag} {mg : Str → Option Value} {base : Heap} {R : Con} (T : Tx K mg) (F : Dn K mg "is_exponent_passes" "is_exponent" (topS 50)) 
    (len : ∀ ds o, R ds o → ds.length = 2) (bd : ∀ E ds o, R ds o → Bd K E (t_is_exponent_passes K E ) (ro N_is_exponent_passes ds) o) : Cal P w K mg base "is_exponent_passes" 1 R :=
  cal_of (k := 0) F sc_is_exponent_passes len (fun _ _ _ _ _ _ us hl => match us, hl with | [_, _], _ => rfl) fun f cdv A outer s H E hr => ⟨t_is_exponent_passes K E , (by exact
      (pss_one (ps_ret (pe_chain op_le op_lt pe_int (pv 1) (pv 0))))), fun ds o h => bd E ds o h⟩
theorem sc_check_person : FnScope N_check_person ["setup", "person"] (defScope (topS 52)) := ⟨rfl, rfl, rfl, by decide +kernel, rfl, by decide +kernel, by decide +kernel⟩
theorem mk_check_person {P : Program} {w : World} {K : PySem.W.Frag} {mg : Str → Option Value} {base : Heap} {R R_is_exponent_passes : Con} (T : Tx K mg) (F : Dn K mg "check_person" "check_person" (topS 52)) (c_is_exponent_passes : Cal P w K mg base "is_exponent_passes" 1 R_is_exponent_passes)
    (len : ∀ ds o, R ds o → ds.length = 2) (bd : ∀ E ds o, R ds o → Bd K E (t_check_person K E R_is_exponent_passes) (ro N_check_person ds) o) : Cal P w K mg base "check_person" 2 R :=
  cal_of (k := 1) F sc_check_person len (fun _ _ _ _ _ _ us hl => match us, hl with | [_, _], _ => rfl) fun f cdv A outer s H E hr => ⟨t_check_person K E R_is_exponent_passes, (by exact
      (pss_cons (ps_asg (pv 1) (pg_tup rfl (pgs_cons (pg_name (i := 2) sc_check_person.nd rfl (Or.inl rfl)) (pgs_cons (pg_name (i := 3) sc_check_person.nd rfl (Or.inl rfl)) (pgs_cons (pg_name (i := 4) sc_check_person.nd rfl (Or.inl rfl)) pgs_nil)))))
      (pss_one (ps_if (PW.pt (pw_or (pt_not (pt_val (pe_callD c_is_exponent_passes hr (by decide) (pa_cons (pe_ix ix_seq (pv 0) pe_int (fun _ _ => rfl)) (pa_cons (pv 2) pa_nil))))) (pw_or (pt_not (pt_chain op_le op_le pe_int (pv 3) (pe_gint T.gGREATEST))) (pw_or1 (pt_not (pt_chain op_le op_le pe_int (pv 4) (pe_gint T.gGREATEST))))))) (pss_one ps_never) pss_nil)))), fun ds o h => bd E ds o h⟩
theorem sc_plain_mark : FnScope N_plain_mark ["setup", "person"] (defScope (topS 53)) := ⟨rfl, rfl, rfl, by decide +kernel, rfl, by decide +kernel, by decide +kernel⟩
theorem mk_plain_mark {P : Program} {w : World} {K : PySem.W.Frag} {mg : Str → Option Value} {base : Heap} {R R_product_of_powers : Con} (T : Tx K mg) (F : Dn K mg "plain_mark" "plain_mark" (topS 53)) (c_product_of_powers : Cal P w K mg base "product_of_powers" 5 R_product_of_powers)
    (len : ∀ ds o, R ds o → ds.length = 2) (bd : ∀ E ds o, R ds o → Bd K E (t_plain_mark K E R_product_of_powers) (ro N_plain_mark ds) o) : Cal P w K mg base "plain_mark" 6 R :=
  cal_of (k := 5) F sc_plain_mark len (fun _ _ _ _ _ _ us hl => match us, hl with | [_, _], _ => rfl) fun f cdv A outer s H E hr => ⟨t_plain_mark K E R_product_of_powers, (by exact
      (pss_cons (ps_asg (pv 0) (pg_tup rfl (pgs_cons (pg_name (i := 2) sc_plain_mark.nd rfl (Or.inl rfl)) (pgs_cons (pg_name (i := 3) sc_plain_mark.nd rfl (Or.inl rfl)) pgs_nil))))
      (pss_one (ps_ret (pe_callD c_product_of_powers hr (by decide) (pa_cons (pv 2) (pa_cons (pe_callTy k_list (by rfl) T.fList b_list (pa_cons (pe_slice sl_tupA (pv 3) (po_some pe_int) po_none) pa_nil)) (pa_cons (pe_op op_cat (pe_lst (pa_cons pe_int pa_nil)) (pe_callTy k_list (by rfl) T.fList b_list (pa_cons (pv 1) pa_nil))) pa_nil)))))))), fun ds o h => bd E ds o h⟩
theorem sc_mark_of : FnScope N_mark_of ["setup", "person"] (defScope (topS 54)) := ⟨rfl, rfl, rfl, by decide +kernel, rfl, by decide +kernel, by decide +kernel⟩
theorem mk_mark_of {P : Program} {w : World} {K : PySem.W.Frag} {mg : Str → Option Value} {base : Heap} {R R_check_person R_plain_mark : Con} (T : Tx K mg) (F : Dn K mg "mark_of" "mark_of" (topS 54)) (c_check_person : Cal P w K mg base "check_person" 2 R_check_person) (c_plain_mark : Cal P w K mg base "plain_mark" 6 R_plain_mark)
    (len : ∀ ds o, R ds o → ds.length = 2) (bd : ∀ E ds o, R ds o → Bd K E (t_mark_of K E R_check_person R_plain_mark) (ro N_mark_of ds) o) : Cal P w K mg base "mark_of" 7 R :=
  cal_of (k := 6) F sc_mark_of len (fun _ _ _ _ _ _ us hl => match us, hl with | [_, _], _ => rfl) fun f cdv A outer s H E hr => ⟨t_mark_of K E R_check_person R_plain_mark, (by exact
      (pss_cons (ps_expr (pe_callD c_check_person hr (by decide) (pa_cons (pv 0) (pa_cons (pv 1) pa_nil))))
      (pss_cons (ps_set (i := 2) sc_mark_of.nd rfl (Or.inl rfl) (pe_callD c_plain_mark hr (by decide) (pa_cons (pv 0) (pa_cons (pv 1) pa_nil))))
      (pss_cons (ps_if (pt_cmpR op_eq (pv 2) pe_int (nomark _)) (pss_one (ps_raiseNA T rfl (takes_of rfl rfl rfl rfl))) pss_nil)
      (pss_one (ps_ret (pv 2))))))), fun ds o h => bd E ds o h⟩
theorem sc_check_secret : FnScope N_check_secret ["setup", "secret"] (defScope (topS 56)) := ⟨rfl, rfl, rfl, by decide +kernel, rfl, by decide +kernel, by decide +kernel⟩
theorem mk_check_secret {P : Program} {w : World} {K : PySem.W.Frag} {mg : Str → Option Value} {base : Heap} {R : Con} (T : Tx K mg) (F : Dn K mg "check_secret" "check_secret" (topS 56)) 
    (len : ∀ ds o, R ds o → ds.length = 2) (bd : ∀ E ds o, R ds o → Bd K E (t_check_secret K E ) (ro N_check_secret ds) o) : Cal P w K mg base "check_secret" 1 R :=
  cal_of (k := 0) F sc_check_secret len (fun _ _ _ _ _ _ us hl => match us, hl with | [_, _], _ => rfl) fun f cdv A outer s H E hr => ⟨t_check_secret K E , (by exact
      (pss_one (ps_if (pt_not (pt_chain op_le op_lt pe_int (pv 1) (pe_ix ix_seq (pv 0) pe_int (fun _ _ => rfl)))) (pss_one ps_never) pss_nil))), fun ds o h => bd E ds o h⟩
theorem sc_check_exponents : FnScope N_check_exponents ["setup", "values"] (defScope (topS 57)) := ⟨rfl, rfl, rfl, by decide +kernel, rfl, by decide +kernel, by decide +kernel⟩
theorem mk_check_exponents {P : Program} {w : World} {K : PySem.W.Frag} {mg : Str → Option Value} {base : Heap} {R R_is_exponent_passes : Con} (T : Tx K mg) (F : Dn K mg "check_exponents" "check_exponents" (topS 57)) (c_is_exponent_passes : Cal P w K mg base "is_exponent_passes" 1 R_is_exponent_passes)
    (len : ∀ ds o, R ds o → ds.length = 2) (bd : ∀ E ds o, R ds o → Bd K E (t_check_exponents K E R_is_exponent_passes) (ro N_check_exponents ds) o) : Cal P w K mg base "check_exponents" 2 R :=
  cal_of (k := 1) F sc_check_exponents len (fun _ _ _ _ _ _ us hl => match us, hl with | [_, _], _ => rfl) fun f cdv A outer s H E hr => ⟨t_check_exponents K E R_is_exponent_passes, (by exact
      (pss_one (ps_if (pt_not (pt_val (pe_callB (cr_all rfl) (by rfl) T.fAll b_all (pa_cons (pe_lc (own := [("value", 2)]) rfl sc_check_exponents.nd (pi_seq (pv 1)) (blkOk_by (own := [("value", 2)]) (N := N_check_exponents) (sc := defScope (topS 57)) (by decide +kernel)) (fun _ _ _ _ _ => (pg_name (i := 2) sc_check_exponents.nd rfl (Or.inl rfl))) (fun _ _ _ _ _ => pts_nil) (fun _ _ _ _ _ => (pe_callD c_is_exponent_passes hr (by decide) (pa_cons (pe_ix ix_seq (pv 0) pe_int (fun _ _ => rfl)) (pa_cons (pv 2) pa_nil))))) pa_nil)))) (pss_one ps_never) pss_nil))), fun ds o h => bd E ds o h⟩
theorem sc_check_blinding : FnScope N_check_blinding ["setup", "blinding"] (defScope (topS 58)) := ⟨rfl, rfl, rfl, by decide +kernel, rfl, by decide +kernel, by decide +kernel⟩
theorem mk_check_blinding {P : Program} {w : World} {K : PySem.W.Frag} {mg : Str → Option Value} {base : Heap} {R R_check_exponents : Con} (T : Tx K mg) (F : Dn K mg "check_blinding" "check_blinding" (topS 58)) (c_check_exponents : Cal P w K mg base "check_exponents" 2 R_check_exponents)
    (len : ∀ ds o, R ds o → ds.length = 2) (bd : ∀ E ds o, R ds o → Bd K E (t_check_blinding K E R_check_exponents) (ro N_check_blinding ds) o) : Cal P w K mg base "check_blinding" 3 R :=
  cal_of (k := 2) F sc_check_blinding len (fun _ _ _ _ _ _ us hl => match us, hl with | [_, _], _ => rfl) fun f cdv A outer s H E hr => ⟨t_check_blinding K E R_check_exponents, (by exact
      (pss_cons (ps_asg (pv 1) (pg_tup rfl (pgs_cons (pg_name (i := 2) sc_check_blinding.nd rfl (Or.inl rfl)) (pgs_cons (pg_name (i := 3) sc_check_blinding.nd rfl (Or.inl rfl)) (pgs_cons (pg_name (i := 4) sc_check_blinding.nd rfl (Or.inl rfl)) (pgs_cons (pg_name (i := 5) sc_check_blinding.nd rfl (Or.inl rfl)) pgs_nil))))))
      (pss_cons (ps_expr (pe_callD c_check_exponents hr (by decide) (pa_cons (pv 0) (pa_cons (pe_op op_cat (pe_lst (pa_cons (pv 2) (pa_cons (pv 3) (pa_cons (pv 4) pa_nil)))) (pe_callTy k_list (by rfl) T.fList b_list (pa_cons (pv 5) pa_nil))) pa_nil))))
      (pss_one (ps_if (PW.pt (pw_or (pt_cmpR op_eq (pv 2) pe_int (nomark _)) (pw_or1 (pt_cmpR op_eq (pv 3) pe_int (nomark _))))) (pss_one ps_never) pss_nil))))), fun ds o h => bd E ds o h⟩
theorem sc_key_of : FnScope N_key_of ["setup", "secret"] (defScope (topS 59)) := ⟨rfl, rfl, rfl, by decide +kernel, rfl, by decide +kernel, by decide +kernel⟩
theorem mk_key_of {P : Program} {w : World} {K : PySem.W.Frag} {mg : Str → Option Value} {base : Heap} {R R_check_secret R_power : Con} (T : Tx K mg) (F : Dn K mg "key_of" "key_of" (topS 59)) (c_check_secret : Cal P w K mg base "check_secret" 1 R_check_secret) (c_power : Cal P w K mg base "power" 4 R_power)
    (len : ∀ ds o, R ds o → ds.length = 2) (bd : ∀ E ds o, R ds o → Bd K E (t_key_of K E R_check_secret R_power) (ro N_key_of ds) o) : Cal P w K mg base "key_of" 5 R :=
  cal_of (k := 4) F sc_key_of len (fun _ _ _ _ _ _ us hl => match us, hl with | [_, _], _ => rfl) fun f cdv A outer s H E hr => ⟨t_key_of K E R_check_secret R_power, (by exact
      (pss_cons (ps_expr (pe_callD c_check_secret hr (by decide) (pa_cons (pv 0) (pa_cons (pv 1) pa_nil))))
      (pss_one (ps_ret (pe_callD c_power hr (by decide) (pa_cons (pe_ix ix_seq (pv 0) pe_int (fun _ _ => rfl)) (pa_cons (pe_ix ix_seq (pe_ix ix_seq (pv 0) pe_int (fun _ _ => rfl)) pe_int (fun _ _ => rfl)) (pa_cons (pv 1) pa_nil)))))))), fun ds o h => bd E ds o h⟩
theorem sc_offer_of : FnScope N_offer_of ["setup", "secret", "person", "w"] (defScope (topS 60)) := ⟨rfl, rfl, rfl, by decide +kernel, rfl, by decide +kernel, by decide +kernel⟩
theorem mk_offer_of {P : Program} {w : World} {K : PySem.W.Frag} {mg : Str → Option Value} {base : Heap} {R R_check_secret R_check_exponents R_mark_of R_power : Con} (T : Tx K mg) (F : Dn K mg "offer_of" "offer_of" (topS 60)) (c_check_secret : Cal P w K mg base "check_secret" 1 R_check_secret) (c_check_exponents : Cal P w K mg base "check_exponents" 2 R_check_exponents) (c_mark_of : Cal P w K mg base "mark_of" 7 R_mark_of) (c_power : Cal P w K mg base "power" 4 R_power)
    (len : ∀ ds o, R ds o → ds.length = 4) (bd : ∀ E ds o, R ds o → Bd K E (t_offer_of K E R_check_secret R_check_exponents R_mark_of R_power) (ro N_offer_of ds) o) : Cal P w K mg base "offer_of" 8 R :=
  cal_of (k := 7) F sc_offer_of len (fun _ _ _ _ _ _ us hl => match us, hl with | [_, _, _, _], _ => rfl) fun f cdv A outer s H E hr => ⟨t_offer_of K E R_check_secret R_check_exponents R_mark_of R_power, (by exact
      (pss_cons (ps_expr (pe_callD c_check_secret hr (by decide) (pa_cons (pv 0) (pa_cons (pv 1) pa_nil))))
      (pss_cons (ps_expr (pe_callD c_check_exponents hr (by decide) (pa_cons (pv 0) (pa_cons (pe_lst (pa_cons (pv 3) pa_nil)) pa_nil))))
      (pss_cons (ps_set (i := 4) sc_offer_of.nd rfl (Or.inl rfl) (pe_callD c_mark_of hr (by decide) (pa_cons (pv 0) (pa_cons (pv 2) pa_nil))))
      (pss_cons (ps_set (i := 5) sc_offer_of.nd rfl (Or.inl rfl) (pe_ix ix_seq (pv 0) pe_int (fun _ _ => rfl)))
      (pss_one (ps_ret (pe_tup (pa_cons (pe_callD c_power hr (by decide) (pa_cons (pv 5) (pa_cons (pv 4) (pa_cons (pv 1) pa_nil)))) (pa_cons (pe_callD c_power hr (by decide) (pa_cons (pv 5) (pa_cons (pe_ix ix_seq (pe_ix ix_seq (pv 0) pe_int (fun _ _ => rfl)) pe_int (fun _ _ => rfl)) (pa_cons (pv 3) pa_nil)))) (pa_cons (pe_callD c_power hr (by decide) (pa_cons (pv 5) (pa_cons (pv 4) (pa_cons (pv 3) pa_nil)))) pa_nil))))))))))), fun ds o h => bd E ds o h⟩
theorem sc_hidden : FnScope N_hidden ["setup", "person", "offer", "blinding"] (defScope (topS 61)) := ⟨rfl, rfl, rfl, by decide +kernel, rfl, by decide +kernel, by decide +kernel⟩
theorem mk_hidden {P : Program} {w : World} {K : PySem.W.Frag} {mg : Str → Option Value} {base : Heap} {R R_mark_of R_is_element R_check_blinding R_power R_product_of_powers R_product : Con} (T : Tx K mg) (F : Dn K mg "hidden" "hidden" (topS 61)) (c_mark_of : Cal P w K mg base "mark_of" 7 R_mark_of) (c_is_element : Cal P w K mg base "is_element" 2 R_is_element) (c_check_blinding : Cal P w K mg base "check_blinding" 3 R_check_blinding) (c_power : Cal P w K mg base "power" 4 R_power) (c_product_of_powers : Cal P w K mg base "product_of_powers" 5 R_product_of_powers) (c_product : Cal P w K mg base "product" 4 R_product)
    (len : ∀ ds o, R ds o → ds.length = 4) (bd : ∀ E ds o, R ds o → Bd K E (t_hidden K E R_mark_of R_is_element R_check_blinding R_power R_product_of_powers R_product) (ro N_hidden ds) o) : Cal P w K mg base "hidden" 8 R :=
  cal_of (k := 7) F sc_hidden len (fun _ _ _ _ _ _ us hl => match us, hl with | [_, _, _, _], _ => rfl) fun f cdv A outer s H E hr => ⟨t_hidden K E R_mark_of R_is_element R_check_blinding R_power R_product_of_powers R_product, (by exact
      (pss_cons (ps_set (i := 4) sc_hidden.nd rfl (Or.inl rfl) (pe_callD c_mark_of hr (by decide) (pa_cons (pv 0) (pa_cons (pv 1) pa_nil))))
      (pss_cons (ps_asg (pv 0) (pg_tup rfl (pgs_cons (pg_name (i := 9) sc_hidden.nd rfl (Or.inr rfl)) (pgs_cons (pg_name (i := 10) sc_hidden.nd rfl (Or.inl rfl)) pgs_nil))))
      (pss_cons (ps_if (PW.pt (pw_or (pt_not (pt_val (pe_callB (cr_all rfl) (by rfl) T.fAll b_all (pa_cons (pe_lc (own := [("value", 18)]) rfl sc_hidden.nd (pi_seq (pv 2)) (blkOk_by (own := [("value", 18)]) (N := N_hidden) (sc := defScope (topS 61)) (by decide +kernel)) (fun _ _ _ _ _ => (pg_name (i := 18) sc_hidden.nd rfl (Or.inl rfl))) (fun _ _ _ _ _ => pts_nil) (fun _ _ _ _ _ => (pe_callD c_is_element hr (by decide) (pa_cons (pv 9) (pa_cons (pv 18) pa_nil))))) pa_nil)))) (pw_or1 (pt_cmpR op_eq (pe_ix ix_seq (pv 2) pe_int (fun _ _ => rfl)) pe_int (nomark _))))) (pss_one ps_never) pss_nil)
      (pss_cons (ps_expr (pe_callD c_check_blinding hr (by decide) (pa_cons (pv 0) (pa_cons (pv 3) pa_nil))))
      (pss_cons (ps_asg (pv 2) (pg_tup rfl (pgs_cons (pg_name (i := 11) sc_hidden.nd rfl (Or.inl rfl)) (pgs_cons (pg_name (i := 12) sc_hidden.nd rfl (Or.inl rfl)) (pgs_cons (pg_name (i := 13) sc_hidden.nd rfl (Or.inl rfl)) pgs_nil)))))
      (pss_cons (ps_asg (pv 3) (pg_tup rfl (pgs_cons (pg_name (i := 14) sc_hidden.nd rfl (Or.inl rfl)) (pgs_cons (pg_name (i := 15) sc_hidden.nd rfl (Or.inl rfl)) (pgs_cons (pg_name (i := 16) sc_hidden.nd rfl (Or.inl rfl)) (pgs_cons (pg_name (i := 17) sc_hidden.nd rfl (Or.inl rfl)) pgs_nil))))))
      (pss_cons (ps_set (i := 5) sc_hidden.nd rfl (Or.inl rfl) (pe_callD c_power hr (by decide) (pa_cons (pv 9) (pa_cons (pv 4) (pa_cons (pv 14) pa_nil)))))
      (pss_cons (ps_set (i := 6) sc_hidden.nd rfl (Or.inl rfl) (pe_callD c_product_of_powers hr (by decide) (pa_cons (pv 9) (pa_cons (pe_callTy k_list (by rfl) T.fList b_list (pa_cons (pe_slice sl_tupA (pv 10) (po_some pe_int) po_none) pa_nil)) (pa_cons (pe_callTy k_list (by rfl) T.fList b_list (pa_cons (pv 17) pa_nil)) pa_nil)))))
      (pss_cons (ps_set (i := 7) sc_hidden.nd rfl (Or.inl rfl) (pe_callD c_product hr (by decide) (pa_cons (pv 9) (pa_cons (pe_callD c_power hr (by decide) (pa_cons (pv 9) (pa_cons (pv 12) (pa_cons (pv 15) pa_nil)))) (pa_cons (pe_callD c_power hr (by decide) (pa_cons (pv 9) (pa_cons (pe_ix ix_seq (pv 10) pe_int (fun _ _ => rfl)) (pa_cons (pv 16) pa_nil)))) pa_nil)))))
      (pss_cons (ps_set (i := 8) sc_hidden.nd rfl (Or.inl rfl) (pe_callD c_product hr (by decide) (pa_cons (pv 9) (pa_cons (pe_callD c_power hr (by decide) (pa_cons (pv 9) (pa_cons (pv 13) (pa_cons (pe_op op_mul (pv 14) (pv 15)) pa_nil)))) (pa_cons (pe_callD c_power hr (by decide) (pa_cons (pv 9) (pa_cons (pv 5) (pa_cons (pv 16) pa_nil)))) pa_nil)))))
      (pss_one (ps_ret (pe_tup (pa_cons (pv 5) (pa_cons (pv 6) (pa_cons (pe_callD c_power hr (by decide) (pa_cons (pv 9) (pa_cons (pv 11) (pa_cons (pv 14) pa_nil)))) (pa_cons (pv 7) (pa_cons (pv 8) pa_nil))))))))))))))))))), fun ds o h => bd E ds o h⟩
theorem sc_challenge_for : FnScope N_challenge_for ["q", "numbers"] (defScope (topS 62)) := ⟨rfl, rfl, rfl, by decide +kernel, rfl, by decide +kernel, by decide +kernel⟩
theorem mk_challenge_for {P : Program} {w : World} {K : PySem.W.Frag} {mg : Str → Option Value} {base : Heap} {R R_challenge_of : Con} (T : Tx K mg) (F : Dn K mg "challenge_for" "challenge_for" (topS 62)) (c_challenge_of : Cal P w K mg base "challenge_of" 3 R_challenge_of)
    (len : ∀ ds o, R ds o → ds.length = 2) (bd : ∀ E ds o, R ds o → Bd K E (t_challenge_for K E R_challenge_of) (ro N_challenge_for ds) o) : Cal P w K mg base "challenge_for" 4 R :=
  cal_of (k := 3) F sc_challenge_for len (fun _ _ _ _ _ _ us hl => match us, hl with | [_, _], _ => rfl) fun f cdv A outer s H E hr => ⟨t_challenge_for K E R_challenge_of, (by exact
      (pss_one (ps_ret (pe_callD c_challenge_of hr (by decide) (pa_cons (pv 0) (pa_cons pe_str (pa_cons (pe_callTy k_list (by rfl) T.fList b_list (pa_cons (pv 1) pa_nil)) pa_nil))))))), fun ds o h => bd E ds o h⟩
theorem sc_request_of : FnScope N_request_of ["setup", "person", "offer", "blinding"] (defScope (topS 63)) := ⟨rfl, rfl, rfl, by decide +kernel, rfl, by decide +kernel, by decide +kernel⟩
theorem mk_request_of {P : Program} {w : World} {K : PySem.W.Frag} {mg : Str → Option Value} {base : Heap} {R R_hidden R_challenge_for R_quotient : Con} (T : Tx K mg) (F : Dn K mg "request_of" "request_of" (topS 63)) (c_hidden : Cal P w K mg base "hidden" 8 R_hidden) (c_challenge_for : Cal P w K mg base "challenge_for" 4 R_challenge_for) (c_quotient : Cal P w K mg base "quotient" 2 R_quotient)
    (len : ∀ ds o, R ds o → ds.length = 4) (bd : ∀ E ds o, R ds o → Bd K E (t_request_of K E R_hidden R_challenge_for R_quotient) (ro N_request_of ds) o) : Cal P w K mg base "request_of" 9 R :=
  cal_of (k := 8) F sc_request_of len (fun _ _ _ _ _ _ us hl => match us, hl with | [_, _, _, _], _ => rfl) fun f cdv A outer s H E hr => ⟨t_request_of K E R_hidden R_challenge_for R_quotient, (by exact
      (pss_cons (ps_set (i := 4) sc_request_of.nd rfl (Or.inl rfl) (pe_ix ix_seq (pv 0) pe_int (fun _ _ => rfl)))
      (pss_cons (ps_set (i := 5) sc_request_of.nd rfl (Or.inl rfl) (pe_callD c_hidden hr (by decide) (pa_cons (pv 0) (pa_cons (pv 1) (pa_cons (pv 2) (pa_cons (pv 3) pa_nil))))))
      (pss_one (ps_ret (pe_callD c_quotient hr (by decide) (pa_cons (pv 4) (pa_cons (pe_callD c_challenge_for hr (by decide) (pa_cons (pv 4) (pa_cons (pv 5) pa_nil))) (pa_cons (pe_ix ix_seq (pv 3) pe_int (fun _ _ => rfl)) pa_nil))))))))), fun ds o h => bd E ds o h⟩
theorem sc_grant_of : FnScope N_grant_of ["setup", "secret", "w", "c"] (defScope (topS 64)) := ⟨rfl, rfl, rfl, by decide +kernel, rfl, by decide +kernel, by decide +kernel⟩
theorem mk_grant_of {P : Program} {w : World} {K : PySem.W.Frag} {mg : Str → Option Value} {base : Heap} {R R_check_secret R_check_exponents : Con} (T : Tx K mg) (F : Dn K mg "grant_of" "grant_of" (topS 64)) (c_check_secret : Cal P w K mg base "check_secret" 1 R_check_secret) (c_check_exponents : Cal P w K mg base "check_exponents" 2 R_check_exponents)
    (len : ∀ ds o, R ds o → ds.length = 4) (bd : ∀ E ds o, R ds o → Bd K E (t_grant_of K E R_check_secret R_check_exponents) (ro N_grant_of ds) o) : Cal P w K mg base "grant_of" 3 R :=
  cal_of (k := 2) F sc_grant_of len (fun _ _ _ _ _ _ us hl => match us, hl with | [_, _, _, _], _ => rfl) fun f cdv A outer s H E hr => ⟨t_grant_of K E R_check_secret R_check_exponents, (by exact
      (pss_cons (ps_expr (pe_callD c_check_secret hr (by decide) (pa_cons (pv 0) (pa_cons (pv 1) pa_nil))))
      (pss_cons (ps_expr (pe_callD c_check_exponents hr (by decide) (pa_cons (pv 0) (pa_cons (pe_lst (pa_cons (pv 2) (pa_cons (pv 3) pa_nil))) pa_nil))))
      (pss_one (ps_ret (pe_op op_mod (pe_op op_add (pv 2) (pe_op op_mul (pv 3) (pv 1))) (pe_ix ix_seq (pv 0) pe_int (fun _ _ => rfl)))))))), fun ds o h => bd E ds o h⟩
theorem sc_is_granted : FnScope N_is_granted ["q", "base", "r", "first", "second", "c"] (defScope (topS 65)) := ⟨rfl, rfl, rfl, by decide +kernel, rfl, by decide +kernel, by decide +kernel⟩
theorem mk_is_granted {P : Program} {w : World} {K : PySem.W.Frag} {mg : Str → Option Value} {base : Heap} {R R_power R_product : Con} (T : Tx K mg) (F : Dn K mg "is_granted" "is_granted" (topS 65)) (c_power : Cal P w K mg base "power" 4 R_power) (c_product : Cal P w K mg base "product" 4 R_product)
    (len : ∀ ds o, R ds o → ds.length = 6) (bd : ∀ E ds o, R ds o → Bd K E (t_is_granted K E R_power R_product) (ro N_is_granted ds) o) : Cal P w K mg base "is_granted" 5 R :=
  cal_of (k := 4) F sc_is_granted len (fun _ _ _ _ _ _ us hl => match us, hl with | [_, _, _, _, _, _], _ => rfl) fun f cdv A outer s H E hr => ⟨t_is_granted K E R_power R_product, (by exact
      (pss_one (ps_ret (pe_cmpR op_eq (pe_callD c_power hr (by decide) (pa_cons (pv 0) (pa_cons (pv 1) (pa_cons (pv 2) pa_nil)))) (pe_callD c_product hr (by decide) (pa_cons (pv 0) (pa_cons (pv 3) (pa_cons (pe_callD c_power hr (by decide) (pa_cons (pv 0) (pa_cons (pv 4) (pa_cons (pv 5) pa_nil)))) pa_nil)))) (nomark _))))), fun ds o h => bd E ds o h⟩
theorem sc_ticket_of : FnScope N_ticket_of ["setup", "key", "person", "offer", "blinding", "r"] (defScope (topS 66)) := ⟨rfl, rfl, rfl, by decide +kernel, rfl, by decide +kernel, by decide +kernel⟩
theorem mk_ticket_of {P : Program} {w : World} {K : PySem.W.Frag} {mg : Str → Option Value} {base : Heap} {R R_hidden R_check_exponents R_challenge_for R_quotient R_is_granted R_mark_of : Con} (T : Tx K mg) (F : Dn K mg "ticket_of" "ticket_of" (topS 66)) (c_hidden : Cal P w K mg base "hidden" 8 R_hidden) (c_check_exponents : Cal P w K mg base "check_exponents" 2 R_check_exponents) (c_challenge_for : Cal P w K mg base "challenge_for" 4 R_challenge_for) (c_quotient : Cal P w K mg base "quotient" 2 R_quotient) (c_is_granted : Cal P w K mg base "is_granted" 5 R_is_granted) (c_mark_of : Cal P w K mg base "mark_of" 7 R_mark_of)
    (len : ∀ ds o, R ds o → ds.length = 6) (bd : ∀ E ds o, R ds o → Bd K E (t_ticket_of K E R_hidden R_check_exponents R_challenge_for R_quotient R_is_granted R_mark_of) (ro N_ticket_of ds) o) : Cal P w K mg base "ticket_of" 9 R :=
  cal_of (k := 8) F sc_ticket_of len (fun _ _ _ _ _ _ us hl => match us, hl with | [_, _, _, _, _, _], _ => rfl) fun f cdv A outer s H E hr => ⟨t_ticket_of K E R_hidden R_check_exponents R_challenge_for R_quotient R_is_granted R_mark_of, (by exact
      (pss_cons (ps_set (i := 6) sc_ticket_of.nd rfl (Or.inl rfl) (pe_callD c_hidden hr (by decide) (pa_cons (pv 0) (pa_cons (pv 2) (pa_cons (pv 3) (pa_cons (pv 4) pa_nil))))))
      (pss_cons (ps_expr (pe_callD c_check_exponents hr (by decide) (pa_cons (pv 0) (pa_cons (pe_lst (pa_cons (pv 5) pa_nil)) pa_nil))))
      (pss_cons (ps_asg (pv 0) (pg_tup rfl (pgs_cons (pg_name (i := 8) sc_ticket_of.nd rfl (Or.inl rfl)) (pgs_cons (pg_name (i := 9) sc_ticket_of.nd rfl (Or.inl rfl)) pgs_nil))))
      (pss_cons (ps_asg (pv 3) (pg_tup rfl (pgs_cons (pg_name (i := 10) sc_ticket_of.nd rfl (Or.inl rfl)) (pgs_cons (pg_name (i := 11) sc_ticket_of.nd rfl (Or.inl rfl)) (pgs_cons (pg_name (i := 12) sc_ticket_of.nd rfl (Or.inl rfl)) pgs_nil)))))
      (pss_cons (ps_set (i := 7) sc_ticket_of.nd rfl (Or.inl rfl) (pe_callD c_quotient hr (by decide) (pa_cons (pv 8) (pa_cons (pe_callD c_challenge_for hr (by decide) (pa_cons (pv 8) (pa_cons (pv 6) pa_nil))) (pa_cons (pe_ix ix_seq (pv 4) pe_int (fun _ _ => rfl)) pa_nil)))))
      (pss_cons (ps_if (PW.pt (pw_or (pt_not (pt_val (pe_callD c_is_granted hr (by decide) (pa_cons (pv 8) (pa_cons (pe_ix ix_seq (pv 9) pe_int (fun _ _ => rfl)) (pa_cons (pv 5) (pa_cons (pv 11) (pa_cons (pv 1) (pa_cons (pv 7) pa_nil))))))))) (pw_or1 (pt_not (pt_val (pe_callD c_is_granted hr (by decide) (pa_cons (pv 8) (pa_cons (pe_callD c_mark_of hr (by decide) (pa_cons (pv 0) (pa_cons (pv 2) pa_nil))) (pa_cons (pv 5) (pa_cons (pv 12) (pa_cons (pv 10) (pa_cons (pv 7) pa_nil)))))))))))) (pss_one (ps_raiseBP T rfl (takes_of rfl rfl rfl rfl))) pss_nil)
      (pss_one (ps_ret (pe_op op_catA (pv 6) (pe_tup (pa_cons (pe_op op_mod (pe_op op_add (pe_op op_mul (pe_ix ix_seq (pv 4) pe_int (fun _ _ => rfl)) (pv 5)) (pe_ix ix_seq (pv 4) pe_int (fun _ _ => rfl))) (pv 8)) pa_nil)))))))))))), fun ds o h => bd E ds o h⟩
theorem sc_spend_of : FnScope N_spend_of ["setup", "person", "blinding", "d"] (defScope (topS 68)) := ⟨rfl, rfl, rfl, by decide +kernel, rfl, by decide +kernel, by decide +kernel⟩
theorem mk_spend_of {P : Program} {w : World} {K : PySem.W.Frag} {mg : Str → Option Value} {base : Heap} {R R_check_person R_check_blinding R_check_exponents : Con} (T : Tx K mg) (F : Dn K mg "spend_of" "spend_of" (topS 68)) (c_check_person : Cal P w K mg base "check_person" 2 R_check_person) (c_check_blinding : Cal P w K mg base "check_blinding" 3 R_check_blinding) (c_check_exponents : Cal P w K mg base "check_exponents" 2 R_check_exponents)
    (len : ∀ ds o, R ds o → ds.length = 4) (bd : ∀ E ds o, R ds o → Bd K E (t_spend_of K E R_check_person R_check_blinding R_check_exponents) (ro N_spend_of ds) o) : Cal P w K mg base "spend_of" 4 R :=
  cal_of (k := 3) F sc_spend_of len (fun _ _ _ _ _ _ us hl => match us, hl with | [_, _, _, _], _ => rfl) fun f cdv A outer s H E hr => ⟨t_spend_of K E R_check_person R_check_blinding R_check_exponents, (by exact
      (pss_cons (ps_expr (pe_callD c_check_person hr (by decide) (pa_cons (pv 0) (pa_cons (pv 1) pa_nil))))
      (pss_cons (ps_expr (pe_callD c_check_blinding hr (by decide) (pa_cons (pv 0) (pa_cons (pv 2) pa_nil))))
      (pss_cons (ps_expr (pe_callD c_check_exponents hr (by decide) (pa_cons (pv 0) (pa_cons (pe_lst (pa_cons (pv 3) pa_nil)) pa_nil))))
      (pss_cons (ps_set (i := 4) sc_spend_of.nd rfl (Or.inl rfl) (pe_op op_catA (pe_tup (pa_cons pe_int pa_nil)) (pe_callTy k_tuple (by rfl) T.fTuple b_tuple (pa_cons (pv 1) pa_nil))))
      (pss_cons (ps_set (i := 5) sc_spend_of.nd rfl (Or.inr rfl) (pe_op op_mul (pv 3) (pe_ix ix_seq (pv 2) pe_int (fun _ _ => rfl))))
      (pss_cons (ps_setLc (i := 6) (own := [("x", 7), ("exponent", 8)]) rfl sc_spend_of.nd rfl rfl (sw_true rfl rfl rfl (by decide +kernel)) (RZ.pi_zipA rfl T.fZip (pa_cons (pe_ix ix_seq (pv 2) pe_int (fun _ _ => rfl)) (pa_cons (pv 4) pa_nil))) (blkOk_by (own := [("x", 7), ("exponent", 8)]) (N := N_spend_of) (sc := defScope (topS 68)) (by decide +kernel)) (fun _ _ _ _ _ => (pg_tup rfl (pgs_cons (pg_name (i := 7) sc_spend_of.nd rfl (Or.inl rfl)) (pgs_cons (pg_name (i := 8) sc_spend_of.nd rfl (Or.inl rfl)) pgs_nil)))) (fun _ _ _ _ _ => pts_nil) (fun _ _ _ _ _ => (pe_op op_mod (pe_op op_add (pv 7) (pe_op op_mul (pv 5) (pv 8))) (pe_ix ix_seq (pv 0) pe_int (fun _ _ => rfl)))))
      (pss_one (ps_ret (pe_tup (pa_cons (pv 3) (pa_cons (pe_callTy k_tuple (by rfl) T.fTuple b_tuple (pa_cons (pv 6) pa_nil)) pa_nil)))))))))))), fun ds o h => bd E ds o h⟩
theorem sc_is_spend : FnScope N_is_spend ["setup", "ticket", "spend"] (defScope (topS 69)) := ⟨rfl, rfl, rfl, by decide +kernel, rfl, by decide +kernel, by decide +kernel⟩
theorem mk_is_spend {P : Program} {w : World} {K : PySem.W.Frag} {mg : Str → Option Value} {base : Heap} {R R_is_element R_is_exponent_passes R_product_of_powers R_power R_product : Con} (T : Tx K mg) (F : Dn K mg "is_spend" "is_spend" (topS 69)) (c_is_element : Cal P w K mg base "is_element" 2 R_is_element) (c_is_exponent_passes : Cal P w K mg base "is_exponent_passes" 1 R_is_exponent_passes) (c_product_of_powers : Cal P w K mg base "product_of_powers" 5 R_product_of_powers) (c_power : Cal P w K mg base "power" 4 R_power) (c_product : Cal P w K mg base "product" 4 R_product)
    (len : ∀ ds o, R ds o → ds.length = 3) (bd : ∀ E ds o, R ds o → Bd K E (t_is_spend K E R_is_element R_is_exponent_passes R_product_of_powers R_power R_product) (ro N_is_spend ds) o) : Cal P w K mg base "is_spend" 6 R :=
  cal_of (k := 5) F sc_is_spend len (fun _ _ _ _ _ _ us hl => match us, hl with | [_, _, _], _ => rfl) fun f cdv A outer s H E hr => ⟨t_is_spend K E R_is_element R_is_exponent_passes R_product_of_powers R_power R_product, (by exact
      (pss_cons (ps_asg (pv 0) (pg_tup rfl (pgs_cons (pg_name (i := 3) sc_is_spend.nd rfl (Or.inr rfl)) (pgs_cons (pg_name (i := 4) sc_is_spend.nd rfl (Or.inl rfl)) pgs_nil))))
      (pss_cons (ps_asg (pv 2) (pg_tup rfl (pgs_cons (pg_name (i := 5) sc_is_spend.nd rfl (Or.inl rfl)) (pgs_cons (pg_name (i := 6) sc_is_spend.nd rfl (Or.inl rfl)) pgs_nil))))
      (pss_cons (ps_if (PW.pt (pw_or (pt_not (pt_val (pe_callD c_is_element hr (by decide) (pa_cons (pv 3) (pa_cons (pe_ix ix_seq (pv 1) pe_int (fun _ _ => rfl)) pa_nil))))) (pw_or1 (pt_not (pt_val (pe_callD c_is_element hr (by decide) (pa_cons (pv 3) (pa_cons (pe_ix ix_seq (pv 1) pe_int (fun _ _ => rfl)) pa_nil)))))))) (pss_one (ps_ret pe_bl)) pss_nil)
      (pss_cons (ps_if (PW.pt (pw_or (pt_not (pt_val (pe_callD c_is_exponent_passes hr (by decide) (pa_cons (pv 3) (pa_cons (pv 5) pa_nil))))) (pw_or1 (pt_not (pt_val (pe_callB (cr_all rfl) (by rfl) T.fAll b_all (pa_cons (pe_lc (own := [("answer", 7)]) rfl sc_is_spend.nd (pi_seq (pv 6)) (blkOk_by (own := [("answer", 7)]) (N := N_is_spend) (sc := defScope (topS 69)) (by decide +kernel)) (fun _ _ _ _ _ => (pg_name (i := 7) sc_is_spend.nd rfl (Or.inl rfl))) (fun _ _ _ _ _ => pts_nil) (fun _ _ _ _ _ => (pe_callD c_is_exponent_passes hr (by decide) (pa_cons (pv 3) (pa_cons (pv 7) pa_nil))))) pa_nil))))))) (pss_one (ps_ret pe_bl)) pss_nil)
      (pss_one (ps_ret (pe_cmpR op_eq (pe_callD c_product_of_powers hr (by decide) (pa_cons (pv 3) (pa_cons (pe_callTy k_list (by rfl) T.fList b_list (pa_cons (pe_slice sl_tupA (pv 4) (po_some pe_int) po_none) pa_nil)) (pa_cons (pe_callTy k_list (by rfl) T.fList b_list (pa_cons (pv 6) pa_nil)) pa_nil)))) (pe_callD c_product hr (by decide) (pa_cons (pv 3) (pa_cons (pe_callD c_power hr (by decide) (pa_cons (pv 3) (pa_cons (pe_ix ix_seq (pv 1) pe_int (fun _ _ => rfl)) (pa_cons (pv 5) pa_nil)))) (pa_cons (pe_ix ix_seq (pv 1) pe_int (fun _ _ => rfl)) pa_nil)))) (nomark _))))))))), fun ds o h => bd E ds o h⟩
theorem sc_inner_challenge : FnScope N_inner_challenge ["setup", "ticket"] (defScope (topS 71)) := ⟨rfl, rfl, rfl, by decide +kernel, rfl, by decide +kernel, by decide +kernel⟩
theorem mk_inner_challenge {P : Program} {w : World} {K : PySem.W.Frag} {mg : Str → Option Value} {base : Heap} {R R_challenge_for : Con} (T : Tx K mg) (F : Dn K mg "inner_challenge" "inner_challenge" (topS 71)) (c_challenge_for : Cal P w K mg base "challenge_for" 4 R_challenge_for)
    (len : ∀ ds o, R ds o → ds.length = 2) (bd : ∀ E ds o, R ds o → Bd K E (t_inner_challenge K E R_challenge_for) (ro N_inner_challenge ds) o) : Cal P w K mg base "inner_challenge" 5 R :=
  cal_of (k := 4) F sc_inner_challenge len (fun _ _ _ _ _ _ us hl => match us, hl with | [_, _], _ => rfl) fun f cdv A outer s H E hr => ⟨t_inner_challenge K E R_challenge_for, (by exact
      (pss_one (ps_ret (pe_callD c_challenge_for hr (by decide) (pa_cons (pe_ix ix_seq (pv 0) pe_int (fun _ _ => rfl)) (pa_cons (pe_slice sl_tupA (pv 1) po_none (po_some pe_int)) pa_nil)))))), fun ds o h => bd E ds o h⟩
theorem sc_is_ticket : FnScope N_is_ticket ["setup", "key", "ticket"] (defScope (topS 72)) := ⟨rfl, rfl, rfl, by decide +kernel, rfl, by decide +kernel, by decide +kernel⟩
theorem mk_is_ticket {P : Program} {w : World} {K : PySem.W.Frag} {mg : Str → Option Value} {base : Heap} {R R_is_element R_is_exponent_passes R_inner_challenge R_is_granted : Con} (T : Tx K mg) (F : Dn K mg "is_ticket" "is_ticket" (topS 72)) (c_is_element : Cal P w K mg base "is_element" 2 R_is_element) (c_is_exponent_passes : Cal P w K mg base "is_exponent_passes" 1 R_is_exponent_passes) (c_inner_challenge : Cal P w K mg base "inner_challenge" 5 R_inner_challenge) (c_is_granted : Cal P w K mg base "is_granted" 5 R_is_granted)
    (len : ∀ ds o, R ds o → ds.length = 3) (bd : ∀ E ds o, R ds o → Bd K E (t_is_ticket K E R_is_element R_is_exponent_passes R_inner_challenge R_is_granted) (ro N_is_ticket ds) o) : Cal P w K mg base "is_ticket" 6 R :=
  cal_of (k := 5) F sc_is_ticket len (fun _ _ _ _ _ _ us hl => match us, hl with | [_, _, _], _ => rfl) fun f cdv A outer s H E hr => ⟨t_is_ticket K E R_is_element R_is_exponent_passes R_inner_challenge R_is_granted, (by exact
      (pss_cons (ps_asg (pv 0) (pg_tup rfl (pgs_cons (pg_name (i := 4) sc_is_ticket.nd rfl (Or.inr rfl)) (pgs_cons (pg_name (i := 5) sc_is_ticket.nd rfl (Or.inl rfl)) pgs_nil))))
      (pss_cons (ps_if (PW.pt (pw_or (pt_not (pt_val (pe_callB (cr_all rfl) (by rfl) T.fAll b_all (pa_cons (pe_lc (own := [("value", 12)]) rfl sc_is_ticket.nd (pi_seq (pe_slice sl_tupA (pv 2) po_none (po_some pe_int))) (blkOk_by (own := [("value", 12)]) (N := N_is_ticket) (sc := defScope (topS 72)) (by decide +kernel)) (fun _ _ _ _ _ => (pg_name (i := 12) sc_is_ticket.nd rfl (Or.inl rfl))) (fun _ _ _ _ _ => pts_nil) (fun _ _ _ _ _ => (pe_callD c_is_element hr (by decide) (pa_cons (pv 4) (pa_cons (pv 12) pa_nil))))) pa_nil)))) (pw_or (pt_cmpR op_eq (pe_ix ix_seq (pv 2) pe_int (fun _ _ => rfl)) pe_int (nomark _)) (pw_or1 (pt_not (pt_val (pe_callD c_is_exponent_passes hr (by decide) (pa_cons (pv 4) (pa_cons (pe_ix ix_seq (pv 2) pe_int (fun _ _ => rfl)) pa_nil))))))))) (pss_one (ps_ret pe_bl)) pss_nil)
      (pss_cons (ps_asg (pv 2) (pg_tup rfl (pgs_cons (pg_name (i := 6) sc_is_ticket.nd rfl (Or.inl rfl)) (pgs_cons (pg_name (i := 7) sc_is_ticket.nd rfl (Or.inl rfl)) (pgs_cons (pg_name (i := 8) sc_is_ticket.nd rfl (Or.inl rfl)) (pgs_cons (pg_name (i := 9) sc_is_ticket.nd rfl (Or.inl rfl)) (pgs_cons (pg_name (i := 10) sc_is_ticket.nd rfl (Or.inl rfl)) (pgs_cons (pg_name (i := 11) sc_is_ticket.nd rfl (Or.inl rfl)) pgs_nil))))))))
      (pss_cons (ps_set (i := 3) sc_is_ticket.nd rfl (Or.inl rfl) (pe_callD c_inner_challenge hr (by decide) (pa_cons (pv 0) (pa_cons (pv 2) pa_nil))))
      (pss_one (ps_ret (pe_and (pe_callD c_is_granted hr (by decide) (pa_cons (pv 4) (pa_cons (pe_ix ix_seq (pv 5) pe_int (fun _ _ => rfl)) (pa_cons (pv 11) (pa_cons (pv 9) (pa_cons (pv 1) (pa_cons (pv 3) pa_nil))))))) (pe_one (pe_callD c_is_granted hr (by decide) (pa_cons (pv 4) (pa_cons (pv 6) (pa_cons (pv 11) (pa_cons (pv 10) (pa_cons (pv 8) (pa_cons (pv 3) pa_nil)))))))))))))))), fun ds o h => bd E ds o h⟩
theorem sc_blinding_of : FnScope N_blinding_of ["setup", "record", "ticket", "spend"] (defScope (topS 73)) := ⟨rfl, rfl, rfl, by decide +kernel, rfl, by decide +kernel, by decide +kernel⟩
theorem mk_blinding_of {P : Program} {w : World} {K : PySem.W.Frag} {mg : Str → Option Value} {base : Heap} {R R_mark_of R_logarithm R_inner_challenge R_quotient : Con} (T : Tx K mg) (F : Dn K mg "blinding_of" "blinding_of" (topS 73)) (c_mark_of : Cal P w K mg base "mark_of" 7 R_mark_of) (c_logarithm : Cal P w K mg base "logarithm" 4 R_logarithm) (c_inner_challenge : Cal P w K mg base "inner_challenge" 5 R_inner_challenge) (c_quotient : Cal P w K mg base "quotient" 2 R_quotient)
    (len : ∀ ds o, R ds o → ds.length = 4) (bd : ∀ E ds o, R ds o → Bd K E (t_blinding_of K E R_mark_of R_logarithm R_inner_challenge R_quotient) (ro N_blinding_of ds) o) : Cal P w K mg base "blinding_of" 8 R :=
  cal_of (k := 7) F sc_blinding_of len (fun _ _ _ _ _ _ us hl => match us, hl with | [_, _, _, _], _ => rfl) fun f cdv A outer s H E hr => ⟨t_blinding_of K E R_mark_of R_logarithm R_inner_challenge R_quotient, (by exact
      (pss_cons (ps_asg (pv 1) (pg_tup rfl (pgs_cons (pg_name (i := 10) sc_blinding_of.nd rfl (Or.inl rfl)) (pgs_cons (pg_name (i := 11) sc_blinding_of.nd rfl (Or.inl rfl)) (pgs_cons (pg_name (i := 12) sc_blinding_of.nd rfl (Or.inl rfl)) (pgs_cons (pg_name (i := 13) sc_blinding_of.nd rfl (Or.inl rfl)) pgs_nil))))))
      (pss_cons (ps_set (i := 4) sc_blinding_of.nd rfl (Or.inr rfl) (pe_ix ix_seq (pv 0) pe_int (fun _ _ => rfl)))
      (pss_cons (ps_set (i := 5) sc_blinding_of.nd rfl (Or.inr rfl) (pe_callD c_logarithm hr (by decide) (pa_cons (pv 4) (pa_cons (pe_callD c_mark_of hr (by decide) (pa_cons (pv 0) (pa_cons (pv 10) pa_nil))) (pa_cons (pe_ix ix_seq (pv 2) pe_int (fun _ _ => rfl)) pa_nil)))))
      (pss_cons (ps_set (i := 6) sc_blinding_of.nd rfl (Or.inl rfl) (pe_callX (takes_of rfl rfl rfl rfl) c_quotient hr (by decide) (pa_cons (pv 4) (pa_cons (pe_callD c_inner_challenge hr (by decide) (pa_cons (pv 0) (pa_cons (pv 2) pa_nil))) (pa_cons (pv 12) pa_nil)))))
      (pss_cons (ps_set (i := 7) sc_blinding_of.nd rfl (Or.inl rfl) (pe_op op_mod (pe_op op_sub (pe_ix ix_seq (pv 2) pe_int (fun _ _ => rfl)) (pe_op op_mul (pv 6) (pv 13))) (pv 4)))
      (pss_cons (ps_asg (pv 3) (pg_tup rfl (pgs_cons (pg_name (i := 14) sc_blinding_of.nd rfl (Or.inr rfl)) (pgs_cons (pg_name (i := 15) sc_blinding_of.nd rfl (Or.inl rfl)) pgs_nil))))
      (pss_cons (ps_set (i := 8) sc_blinding_of.nd rfl (Or.inl rfl) (pe_op op_catA (pe_tup (pa_cons pe_int pa_nil)) (pe_callTy k_tuple (by rfl) T.fTuple b_tuple (pa_cons (pv 10) pa_nil))))
      (pss_cons (ps_setLc (i := 9) (own := [("answer", 16), ("exponent", 17)]) rfl sc_blinding_of.nd rfl rfl (sw_true rfl rfl rfl (by decide +kernel)) (RZ.pi_zipA rfl T.fZip (pa_cons (pv 15) (pa_cons (pv 8) pa_nil))) (blkOk_by (own := [("answer", 16), ("exponent", 17)]) (N := N_blinding_of) (sc := defScope (topS 73)) (by decide +kernel)) (fun _ _ _ _ _ => (pg_tup rfl (pgs_cons (pg_name (i := 16) sc_blinding_of.nd rfl (Or.inl rfl)) (pgs_cons (pg_name (i := 17) sc_blinding_of.nd rfl (Or.inl rfl)) pgs_nil)))) (fun _ _ _ _ _ => pts_nil) (fun _ _ _ _ _ => (pe_op op_mod (pe_op op_sub (pv 16) (pe_op op_mul (pe_op op_mul (pv 14) (pv 5)) (pv 17))) (pv 4))))
      (pss_one (ps_ret (pe_tup (pa_cons (pv 5) (pa_cons (pv 6) (pa_cons (pv 7) (pa_cons (pe_callTy k_tuple (by rfl) T.fTuple b_tuple (pa_cons (pv 9) pa_nil)) pa_nil)))))))))))))))), fun ds o h => bd E ds o h⟩
theorem sc_explain_ticket : FnScope N_explain_ticket ["setup", "key", "record", "ticket", "spend"] (defScope (topS 74)) := ⟨rfl, rfl, rfl, by decide +kernel, rfl, by decide +kernel, by decide +kernel⟩
theorem mk_explain_ticket {P : Program} {w : World} {K : PySem.W.Frag} {mg : Str → Option Value} {base : Heap} {R R_blinding_of R_request_of R_spend_of R_ticket_of : Con} (T : Tx K mg) (F : Dn K mg "explain_ticket" "explain_ticket" (topS 74)) (c_blinding_of : Cal P w K mg base "blinding_of" 8 R_blinding_of) (c_request_of : Cal P w K mg base "request_of" 9 R_request_of) (c_spend_of : Cal P w K mg base "spend_of" 4 R_spend_of) (c_ticket_of : Cal P w K mg base "ticket_of" 9 R_ticket_of)
    (len : ∀ ds o, R ds o → ds.length = 5) (bd : ∀ E ds o, R ds o → Bd K E (t_explain_ticket K E R_blinding_of R_request_of R_spend_of R_ticket_of) (ro N_explain_ticket ds) o) : Cal P w K mg base "explain_ticket" 10 R :=
  cal_of (k := 9) F sc_explain_ticket len (fun _ _ _ _ _ _ us hl => match us, hl with | [_, _, _, _, _], _ => rfl) fun f cdv A outer s H E hr => ⟨t_explain_ticket K E R_blinding_of R_request_of R_spend_of R_ticket_of, (by exact
      (pss_cons (ps_asg (pv 2) (pg_tup rfl (pgs_cons (pg_name (i := 5) sc_explain_ticket.nd rfl (Or.inl rfl)) (pgs_cons (pg_name (i := 6) sc_explain_ticket.nd rfl (Or.inl rfl)) (pgs_cons (pg_name (i := 7) sc_explain_ticket.nd rfl (Or.inl rfl)) (pgs_cons (pg_name (i := 8) sc_explain_ticket.nd rfl (Or.inl rfl)) pgs_nil))))))
      (pss_cons (ps_try_only (tb := fun W => (tSeq (tAsg (tCallS (spD K R_blinding_of) (WE W) (tCons (tVar 0) (tCons (tVar 2) (tCons (tVar 3) (tCons (tVar 4) tNil))))) (gName 9))
    (tSeq (tIfS (tTest (tOp rNe (tCallS (spD K R_request_of) (WE W0) (tCons (tVar 0) (tCons (tVar 5) (tCons (tVar 6) (tCons (tVar 9) tNil))))) (tVar 7))) (tRet (tC .non)) tNext)
    (tAsg (tTup (tCons (tCallS (spD K R_ticket_of) (WE W) (tCons (tVar 0) (tCons (tVar 1) (tCons (tVar 5) (tCons (tVar 6) (tCons (tVar 9) (tCons (tVar 8) tNil))))))) (tCons (tCallS (spD K R_spend_of) (WE W0) (tCons (tVar 0) (tCons (tVar 5) (tCons (tVar 9) (tCons (tOp (rIx K) (tVar 4) (tC (.int 0))) tNil))))) tNil))) (gName 10))))) (ts := fun _ _ _ => (tRet (tC .non))) rfl rfl ⟨rfl, by decide, .inl T.gCE⟩ takes0 (fun W pn xe tk _ => (pss_cons (ps_set (i := 9) sc_explain_ticket.nd rfl (Or.inl rfl) (pe_callX tk c_blinding_of hr (by decide) (pa_cons (pv 0) (pa_cons (pv 2) (pa_cons (pv 3) (pa_cons (pv 4) pa_nil))))))
      (pss_cons (ps_if (pt_cmpR op_ne (pe_callD c_request_of hr (by decide) (pa_cons (pv 0) (pa_cons (pv 5) (pa_cons (pv 6) (pa_cons (pv 9) pa_nil))))) (pv 7) (nomark _)) (pss_one (ps_ret pe_non)) pss_nil)
      (pss_one (ps_set (i := 10) sc_explain_ticket.nd rfl (Or.inl rfl) (pe_tup (pa_cons (pe_callX tk c_ticket_of hr (by decide) (pa_cons (pv 0) (pa_cons (pv 1) (pa_cons (pv 5) (pa_cons (pv 6) (pa_cons (pv 9) (pa_cons (pv 8) pa_nil))))))) (pa_cons (pe_callD c_spend_of hr (by decide) (pa_cons (pv 0) (pa_cons (pv 5) (pa_cons (pv 9) (pa_cons (pe_ix ix_seq (pv 4) pe_int (fun _ _ => rfl)) pa_nil))))) pa_nil)))))))) (fun _ _ _ _ _ _ _ => (pss_one (ps_ret pe_non))))
      (pss_cons (ps_if (pt_cmpR (op_neD hr.units) (pv 10) (pe_tup (pa_cons (pv 3) (pa_cons (pv 4) pa_nil))) (nomark _)) (pss_one (ps_ret pe_non)) pss_nil)
      (pss_one (ps_ret (pv 9))))))), fun ds o h => bd E ds o h⟩
theorem sc_is_gate_name : FnScope N_is_gate_name ["text"] (defScope (topS 79)) := ⟨rfl, rfl, rfl, by decide +kernel, rfl, by decide +kernel, by decide +kernel⟩
theorem mk_is_gate_name {P : Program} {w : World} {K : PySem.W.Frag} {mg : Str → Option Value} {base : Heap} {R : Con} (T : Tx K mg) (F : Dn K mg "is_gate_name" "is_gate_name" (topS 79)) 
    (len : ∀ ds o, R ds o → ds.length = 1) (bd : ∀ E ds o, R ds o → Bd K E (t_is_gate_name K E ) (ro N_is_gate_name ds) o) : Cal P w K mg base "is_gate_name" 1 R :=
  cal_of (k := 0) F sc_is_gate_name len (fun _ _ _ _ _ _ us hl => match us, hl with | [_], _ => rfl) fun f cdv A outer s H E hr => ⟨t_is_gate_name K E , (by exact
      (pss_one (ps_ret (pe_and (pe_chain op_le op_le pe_int (pe_callB k_len (by rfl) T.fLen b_len (pa_cons (pv 0) pa_nil)) (pe_gint T.gMAX_GATE)) (pe_one (pe_callB (cr_all rfl) (by rfl) T.fAll b_all (pa_cons (pe_lc (own := [("sign", 1)]) rfl sc_is_gate_name.nd (pi_str (pv 0)) (blkOk_by (own := [("sign", 1)]) (N := N_is_gate_name) (sc := defScope (topS 79)) (by decide +kernel)) (fun _ _ _ _ _ => (pg_name (i := 1) sc_is_gate_name.nd rfl (Or.inl rfl))) (fun _ _ _ _ _ => pts_nil) (fun _ _ _ _ _ => (pe_cmpR o_sign (pv 1) (pe_gstr T.gSMALL) (by rfl)))) pa_nil))))))), fun ds o h => bd E ds o h⟩
theorem sc_check_context : FnScope N_check_context ["context"] (defScope (topS 80)) := ⟨rfl, rfl, rfl, by decide +kernel, rfl, by decide +kernel, by decide +kernel⟩
theorem mk_check_context {P : Program} {w : World} {K : PySem.W.Frag} {mg : Str → Option Value} {base : Heap} {R R_is_gate_name : Con} (T : Tx K mg) (F : Dn K mg "check_context" "check_context" (topS 80)) (c_is_gate_name : Cal P w K mg base "is_gate_name" 1 R_is_gate_name)
    (len : ∀ ds o, R ds o → ds.length = 1) (bd : ∀ E ds o, R ds o → Bd K E (t_check_context K E R_is_gate_name) (ro N_check_context ds) o) : Cal P w K mg base "check_context" 2 R :=
  cal_of (k := 1) F sc_check_context len (fun _ _ _ _ _ _ us hl => match us, hl with | [_], _ => rfl) fun f cdv A outer s H E hr => ⟨t_check_context K E R_is_gate_name, (by exact
      (pss_cons (ps_asg (pv 0) (pg_tup rfl (pgs_cons (pg_name (i := 1) sc_check_context.nd rfl (Or.inl rfl)) (pgs_cons (pg_name (i := 2) sc_check_context.nd rfl (Or.inl rfl)) pgs_nil))))
      (pss_one (ps_if (PW.pt (pw_or (pt_not (pt_val (pe_callD c_is_gate_name hr (by decide) (pa_cons (pv 1) pa_nil)))) (pw_or (pt_cmpR op_lt (pv 2) pe_int (nomark _)) (pw_or1 (pt_cmpR op_gt (pv 2) (pe_gint T.gMAX_MOMENT) (nomark _)))))) (pss_one ps_never) pss_nil)))), fun ds o h => bd E ds o h⟩
theorem sc_stage_numbers : FnScope N_stage_numbers ["context", "pairs"] (defScope (topS 81)) := ⟨rfl, rfl, rfl, by decide +kernel, rfl, by decide +kernel, by decide +kernel⟩
theorem mk_stage_numbers {P : Program} {w : World} {K : PySem.W.Frag} {mg : Str → Option Value} {base : Heap} {R R_check_context R_check_set R_index_of : Con} (T : Tx K mg) (F : Dn K mg "stage_numbers" "stage_numbers" (topS 81)) (c_check_context : Cal P w K mg base "check_context" 2 R_check_context) (c_check_set : Cal P w K mg base "check_set" 3 R_check_set) (c_index_of : Cal P w K mg base "index_of" 2 R_index_of)
    (len : ∀ ds o, R ds o → ds.length = 2) (bd : ∀ E ds o, R ds o → Bd K E (t_stage_numbers K E R_check_context R_check_set R_index_of) (ro N_stage_numbers ds) o) : Cal P w K mg base "stage_numbers" 4 R :=
  cal_of (k := 3) F sc_stage_numbers len (fun _ _ _ _ _ _ us hl => match us, hl with | [_, _], _ => rfl) fun f cdv A outer s H E hr => ⟨t_stage_numbers K E R_check_context R_check_set R_index_of, (by exact
      (pss_cons (ps_expr (pe_callD c_check_context hr (by decide) (pa_cons (pv 0) pa_nil)))
      (pss_cons (ps_expr (pe_callD c_check_set hr (by decide) (pa_cons (pv 1) pa_nil)))
      (pss_one (ps_ret (pe_op op_cat (pe_lst (pa_cons (pe_ix ix_seq (pv 0) pe_int (fun _ _ => rfl)) (pa_cons (pe_callB k_len (by rfl) T.fLen b_len (pa_cons (pv 1) pa_nil)) pa_nil))) (pe_lc (own := [("pair", 2)]) rfl sc_stage_numbers.nd (pi_seq (pv 1)) (blkOk_by (own := [("pair", 2)]) (N := N_stage_numbers) (sc := defScope (topS 81)) (by decide +kernel)) (fun _ _ _ _ _ => (pg_name (i := 2) sc_stage_numbers.nd rfl (Or.inl rfl))) (fun _ _ _ _ _ => pts_nil) (fun _ _ _ _ _ => (pe_callD c_index_of hr (by decide) (pa_cons (pv 2) pa_nil)))))))))), fun ds o h => bd E ds o h⟩
theorem sc_stage_challenge : FnScope N_stage_challenge ["setup", "context", "pairs"] (defScope (topS 82)) := ⟨rfl, rfl, rfl, by decide +kernel, rfl, by decide +kernel, by decide +kernel⟩
theorem mk_stage_challenge {P : Program} {w : World} {K : PySem.W.Frag} {mg : Str → Option Value} {base : Heap} {R R_stage_numbers R_challenge_of : Con} (T : Tx K mg) (F : Dn K mg "stage_challenge" "stage_challenge" (topS 82)) (c_stage_numbers : Cal P w K mg base "stage_numbers" 4 R_stage_numbers) (c_challenge_of : Cal P w K mg base "challenge_of" 3 R_challenge_of)
    (len : ∀ ds o, R ds o → ds.length = 3) (bd : ∀ E ds o, R ds o → Bd K E (t_stage_challenge K E R_stage_numbers R_challenge_of) (ro N_stage_challenge ds) o) : Cal P w K mg base "stage_challenge" 5 R :=
  cal_of (k := 4) F sc_stage_challenge len (fun _ _ _ _ _ _ us hl => match us, hl with | [_, _, _], _ => rfl) fun f cdv A outer s H E hr => ⟨t_stage_challenge K E R_stage_numbers R_challenge_of, (by exact
      (pss_cons (ps_set (i := 3) sc_stage_challenge.nd rfl (Or.inl rfl) (pe_callD c_stage_numbers hr (by decide) (pa_cons (pv 1) (pa_cons (pv 2) pa_nil))))
      (pss_one (ps_ret (pe_callD c_challenge_of hr (by decide) (pa_cons (pe_ix ix_seq (pv 0) pe_int (fun _ _ => rfl)) (pa_cons (pe_op o_addS pe_str (pe_ix ix_seq (pv 1) pe_int (fun _ _ => rfl))) (pa_cons (pv 3) pa_nil)))))))), fun ds o h => bd E ds o h⟩
theorem sc_choice_of : FnScope N_choice_of ["setup", "ticket", "pairs"] (defScope (topS 83)) := ⟨rfl, rfl, rfl, by decide +kernel, rfl, by decide +kernel, by decide +kernel⟩
theorem mk_choice_of {P : Program} {w : World} {K : PySem.W.Frag} {mg : Str → Option Value} {base : Heap} {R R_check_set R_is_element R_product_of_powers : Con} (T : Tx K mg) (F : Dn K mg "choice_of" "choice_of" (topS 83)) (c_check_set : Cal P w K mg base "check_set" 3 R_check_set) (c_is_element : Cal P w K mg base "is_element" 2 R_is_element) (c_product_of_powers : Cal P w K mg base "product_of_powers" 5 R_product_of_powers)
    (len : ∀ ds o, R ds o → ds.length = 3) (bd : ∀ E ds o, R ds o → Bd K E (t_choice_of K E R_check_set R_is_element R_product_of_powers) (ro N_choice_of ds) o) : Cal P w K mg base "choice_of" 6 R :=
  cal_of (k := 5) F sc_choice_of len (fun _ _ _ _ _ _ us hl => match us, hl with | [_, _, _], _ => rfl) fun f cdv A outer s H E hr => ⟨t_choice_of K E R_check_set R_is_element R_product_of_powers, (by exact
      (pss_cons (ps_expr (pe_callD c_check_set hr (by decide) (pa_cons (pv 2) pa_nil)))
      (pss_cons (ps_asg (pv 0) (pg_tup rfl (pgs_cons (pg_name (i := 4) sc_choice_of.nd rfl (Or.inl rfl)) (pgs_cons (pg_name (i := 5) sc_choice_of.nd rfl (Or.inl rfl)) pgs_nil))))
      (pss_cons (ps_if (PW.pt (pw_or (pt_cmpR op_eq (pe_callB k_len (by rfl) T.fLen b_len (pa_cons (pv 2) pa_nil)) pe_int (nomark _)) (pw_or1 (pt_not (pt_val (pe_callD c_is_element hr (by decide) (pa_cons (pv 4) (pa_cons (pe_ix ix_seq (pv 1) pe_int (fun _ _ => rfl)) pa_nil)))))))) (pss_one ps_never) pss_nil)
      (pss_cons (ps_set (i := 3) sc_choice_of.nd rfl (Or.inl rfl) (pe_lst pa_nil))
      (pss_cons (ps_for (passes_of rfl) rfl (pi_seq (pv 2)) (pg_tup rfl (pgs_cons (pg_name (i := 6) sc_choice_of.nd rfl (Or.inl rfl)) (pgs_cons (pg_name (i := 7) sc_choice_of.nd rfl (Or.inl rfl)) pgs_nil))) (pss_cons (ps_set (i := 8) sc_choice_of.nd rfl (Or.inl rfl) (pe_callD c_product_of_powers hr (by decide) (pa_cons (pv 4) (pa_cons (pe_lst (pa_cons (pe_ix ix_seq (pv 5) pe_int (fun _ _ => rfl)) (pa_cons (pe_ix ix_seq (pv 5) pe_int (fun _ _ => rfl)) (pa_cons (pe_ix ix_seq (pv 5) pe_int (fun _ _ => rfl)) pa_nil)))) (pa_cons (pe_lst (pa_cons pe_int (pa_cons (pv 6) (pa_cons (pv 7) pa_nil)))) pa_nil)))))
      (pss_one (ps_expr (pe_bm PySem.F.plainAttrs_list PySem.F.slot_list_append PySem.F.type_list_append mt_append (pv 3) (pa_cons (pe_tup (pa_cons pe_int (pa_cons (pe_tup (pa_cons (pe_tup (pa_cons (pe_ix ix_seq (pv 1) pe_int (fun _ _ => rfl)) (pa_cons (pe_tup (pa_cons (pv 8) (pa_cons (pe_ix ix_seq (pv 5) pe_int (fun _ _ => rfl)) pa_nil))) pa_nil))) pa_nil)) pa_nil))) pa_nil))))))
      (pss_one (ps_ret (pe_callTy k_tuple (by rfl) T.fTuple b_tuple (pa_cons (pv 3) pa_nil)))))))))), fun ds o h => bd E ds o h⟩
theorem sc_paper_text : FnScope N_paper_text ["context", "pairs", "ticket", "spend"] (defScope (topS 84)) := ⟨rfl, rfl, rfl, by decide +kernel, rfl, by decide +kernel, by decide +kernel⟩
theorem mk_paper_text {P : Program} {w : World} {K : PySem.W.Frag} {mg : Str → Option Value} {base : Heap} {R R_stage_numbers R_joined_text : Con} (T : Tx K mg) (F : Dn K mg "paper_text" "paper_text" (topS 84)) (c_stage_numbers : Cal P w K mg base "stage_numbers" 4 R_stage_numbers) (c_joined_text : Cal P w K mg base "joined_text" 1 R_joined_text)
    (len : ∀ ds o, R ds o → ds.length = 4) (bd : ∀ E ds o, R ds o → Bd K E (t_paper_text K E R_stage_numbers R_joined_text) (ro N_paper_text ds) o) : Cal P w K mg base "paper_text" 5 R :=
  cal_of (k := 4) F sc_paper_text len (fun _ _ _ _ _ _ us hl => match us, hl with | [_, _, _, _], _ => rfl) fun f cdv A outer s H E hr => ⟨t_paper_text K E R_stage_numbers R_joined_text, (by exact
      (pss_cons (ps_set (i := 4) sc_paper_text.nd rfl (Or.inl rfl) (pe_callD c_stage_numbers hr (by decide) (pa_cons (pv 0) (pa_cons (pv 1) pa_nil))))
      (pss_cons (ps_set (i := 4) sc_paper_text.nd rfl (Or.inl rfl) (pe_op op_cat (pe_op op_cat (pe_op op_cat (pv 4) (pe_callTy k_list (by rfl) T.fList b_list (pa_cons (pv 2) pa_nil))) (pe_lst (pa_cons (pe_ix ix_seq (pv 3) pe_int (fun _ _ => rfl)) pa_nil))) (pe_callTy k_list (by rfl) T.fList b_list (pa_cons (pe_ix ix_seq (pv 3) pe_int (fun _ _ => rfl)) pa_nil))))
      (pss_one (ps_ret (pe_callD c_joined_text hr (by decide) (pa_cons (pe_op o_addS pe_str (pe_ix ix_seq (pv 0) pe_int (fun _ _ => rfl))) (pa_cons (pv 4) pa_nil)))))))), fun ds o h => bd E ds o h⟩
theorem sc_make_showing : FnScope N_make_showing ["setup", "person", "ticket", "blinding", "context", "pairs", "noise"] (defScope (topS 85)) := ⟨rfl, rfl, rfl, by decide +kernel, rfl, by decide +kernel, by decide +kernel⟩
theorem mk_make_showing {P : Program} {w : World} {K : PySem.W.Frag} {mg : Str → Option Value} {base : Heap} {R R_stage_challenge R_spend_of R_choice_of R_paper_text R_make_paper : Con} (T : Tx K mg) (F : Dn K mg "make_showing" "make_showing" (topS 85)) (c_stage_challenge : Cal P w K mg base "stage_challenge" 5 R_stage_challenge) (c_spend_of : Cal P w K mg base "spend_of" 4 R_spend_of) (c_choice_of : Cal P w K mg base "choice_of" 6 R_choice_of) (c_paper_text : Cal P w K mg base "paper_text" 5 R_paper_text) (c_make_paper : Cal P w K mg base "make_paper" 8 R_make_paper)
    (len : ∀ ds o, R ds o → ds.length = 7) (bd : ∀ E ds o, R ds o → Bd K E (t_make_showing K E R_stage_challenge R_spend_of R_choice_of R_paper_text R_make_paper) (ro N_make_showing ds) o) : Cal P w K mg base "make_showing" 9 R :=
  cal_of (k := 8) F sc_make_showing len (fun _ _ _ _ _ _ us hl => match us, hl with | [_, _, _, _, _, _, _], _ => rfl) fun f cdv A outer s H E hr => ⟨t_make_showing K E R_stage_challenge R_spend_of R_choice_of R_paper_text R_make_paper, (by exact
      (pss_cons (ps_set (i := 7) sc_make_showing.nd rfl (Or.inl rfl) (pe_callD c_stage_challenge hr (by decide) (pa_cons (pv 0) (pa_cons (pv 4) (pa_cons (pv 5) pa_nil)))))
      (pss_cons (ps_if (pt_cmpR (op_notInD (room65 hr)) (pe_slice sl_tupA (pv 1) (po_some pe_int) po_none) (pv 5) (by rfl)) (pss_one ps_never) pss_nil)
      (pss_cons (ps_set (i := 8) sc_make_showing.nd rfl (Or.inl rfl) (pe_callD c_spend_of hr (by decide) (pa_cons (pv 0) (pa_cons (pv 1) (pa_cons (pv 3) (pa_cons (pv 7) pa_nil))))))
      (pss_cons (ps_set (i := 9) sc_make_showing.nd rfl (Or.inl rfl) (pe_callD c_choice_of hr (by decide) (pa_cons (pv 0) (pa_cons (pv 2) (pa_cons (pv 5) pa_nil)))))
      (pss_cons (ps_set (i := 10) sc_make_showing.nd rfl (Or.inl rfl) (pe_tup (pa_cons (pe_ix ix_seq (pv 3) pe_int (fun _ _ => rfl)) (pa_cons (pe_op op_mod (pe_op op_mul (pe_ix ix_seq (pv 3) pe_int (fun _ _ => rfl)) (pe_ix ix_seq (pv 1) pe_int (fun _ _ => rfl))) (pe_ix ix_seq (pv 0) pe_int (fun _ _ => rfl))) pa_nil))))
      (pss_cons (ps_set (i := 11) sc_make_showing.nd rfl (Or.inl rfl) (pe_callD c_paper_text hr (by decide) (pa_cons (pv 4) (pa_cons (pv 5) (pa_cons (pv 2) (pa_cons (pv 8) pa_nil))))))
      (pss_cons (ps_set (i := 12) sc_make_showing.nd rfl (Or.inl rfl) (pe_callD c_make_paper hr (by decide) (pa_cons (pe_ix ix_seq (pv 0) pe_int (fun _ _ => rfl)) (pa_cons (pv 11) (pa_cons (pv 9) (pa_cons (pe_bm PySem.F.plainAttrs_list PySem.F.slot_list_index PySem.F.type_list_index (mt_indexD (room65 hr)) (pv 5) (pa_cons (pe_slice sl_tupA (pv 1) (po_some pe_int) po_none) pa_nil)) (pa_cons (pv 10) (pa_cons (pv 6) pa_nil))))))))
      (pss_one (ps_ret (pe_tup (pa_cons (pv 2) (pa_cons (pv 8) (pa_cons (pv 12) pa_nil)))))))))))))), fun ds o h => bd E ds o h⟩
theorem sc_check_showing : FnScope N_check_showing ["setup", "key", "context", "pairs", "showing"] (defScope (topS 86)) := ⟨rfl, rfl, rfl, by decide +kernel, rfl, by decide +kernel, by decide +kernel⟩
theorem mk_check_showing {P : Program} {w : World} {K : PySem.W.Frag} {mg : Str → Option Value} {base : Heap} {R R_stage_challenge R_is_ticket R_is_spend R_paper_text R_choice_of R_check_paper : Con} (T : Tx K mg) (F : Dn K mg "check_showing" "check_showing" (topS 86)) (c_stage_challenge : Cal P w K mg base "stage_challenge" 5 R_stage_challenge) (c_is_ticket : Cal P w K mg base "is_ticket" 6 R_is_ticket) (c_is_spend : Cal P w K mg base "is_spend" 6 R_is_spend) (c_paper_text : Cal P w K mg base "paper_text" 5 R_paper_text) (c_choice_of : Cal P w K mg base "choice_of" 6 R_choice_of) (c_check_paper : Cal P w K mg base "check_paper" 8 R_check_paper)
    (len : ∀ ds o, R ds o → ds.length = 5) (bd : ∀ E ds o, R ds o → Bd K E (t_check_showing K E R_stage_challenge R_is_ticket R_is_spend R_paper_text R_choice_of R_check_paper) (ro N_check_showing ds) o) : Cal P w K mg base "check_showing" 9 R :=
  cal_of (k := 8) F sc_check_showing len (fun _ _ _ _ _ _ us hl => match us, hl with | [_, _, _, _, _], _ => rfl) fun f cdv A outer s H E hr => ⟨t_check_showing K E R_stage_challenge R_is_ticket R_is_spend R_paper_text R_choice_of R_check_paper, (by exact
      (pss_cons (ps_set (i := 5) sc_check_showing.nd rfl (Or.inl rfl) (pe_callD c_stage_challenge hr (by decide) (pa_cons (pv 0) (pa_cons (pv 2) (pa_cons (pv 3) pa_nil)))))
      (pss_cons (ps_if (pt_cmpR op_eq (pe_callB k_len (by rfl) T.fLen b_len (pa_cons (pv 3) pa_nil)) pe_int (nomark _)) (pss_one ps_never) pss_nil)
      (pss_cons (ps_asg (pv 4) (pg_tup rfl (pgs_cons (pg_name (i := 7) sc_check_showing.nd rfl (Or.inl rfl)) (pgs_cons (pg_name (i := 8) sc_check_showing.nd rfl (Or.inl rfl)) (pgs_cons (pg_name (i := 9) sc_check_showing.nd rfl (Or.inl rfl)) pgs_nil)))))
      (pss_cons (ps_if (pt_not (pt_val (pe_callD c_is_ticket hr (by decide) (pa_cons (pv 0) (pa_cons (pv 1) (pa_cons (pv 7) pa_nil)))))) (pss_one ps_never) pss_nil)
      (pss_cons (ps_if (PW.pt (pw_or (pt_cmpR op_ne (pe_ix ix_seq (pv 8) pe_int (fun _ _ => rfl)) (pv 5) (nomark _)) (pw_or1 (pt_not (pt_val (pe_callD c_is_spend hr (by decide) (pa_cons (pv 0) (pa_cons (pv 7) (pa_cons (pv 8) pa_nil))))))))) (pss_one ps_never) pss_nil)
      (pss_cons (ps_set (i := 6) sc_check_showing.nd rfl (Or.inl rfl) (pe_callD c_paper_text hr (by decide) (pa_cons (pv 2) (pa_cons (pv 3) (pa_cons (pv 7) (pa_cons (pv 8) pa_nil))))))
      (pss_one (ps_expr (pe_callD c_check_paper hr (by decide) (pa_cons (pe_ix ix_seq (pv 0) pe_int (fun _ _ => rfl)) (pa_cons (pv 6) (pa_cons (pe_callD c_choice_of hr (by decide) (pa_cons (pv 0) (pa_cons (pv 7) (pa_cons (pv 3) pa_nil)))) (pa_cons (pv 9) pa_nil)))))))))))))), fun ds o h => bd E ds o h⟩
theorem sc_explain_showing : FnScope N_explain_showing ["setup", "key", "record", "context", "pairs", "showing"] (defScope (topS 87)) := ⟨rfl, rfl, rfl, by decide +kernel, rfl, by decide +kernel, by decide +kernel⟩
theorem mk_explain_showing {P : Program} {w : World} {K : PySem.W.Frag} {mg : Str → Option Value} {base : Heap} {R R_check_showing R_explain_ticket R_choice_of R_paper_text R_explain_paper : Con} (T : Tx K mg) (F : Dn K mg "explain_showing" "explain_showing" (topS 87)) (c_check_showing : Cal P w K mg base "check_showing" 9 R_check_showing) (c_explain_ticket : Cal P w K mg base "explain_ticket" 10 R_explain_ticket) (c_choice_of : Cal P w K mg base "choice_of" 6 R_choice_of) (c_paper_text : Cal P w K mg base "paper_text" 5 R_paper_text) (c_explain_paper : Cal P w K mg base "explain_paper" 9 R_explain_paper)
    (len : ∀ ds o, R ds o → ds.length = 6) (bd : ∀ E ds o, R ds o → Bd K E (t_explain_showing K E R_check_showing R_explain_ticket R_choice_of R_paper_text R_explain_paper) (ro N_explain_showing ds) o) : Cal P w K mg base "explain_showing" 11 R :=
  cal_of (k := 10) F sc_explain_showing len (fun _ _ _ _ _ _ us hl => match us, hl with | [_, _, _, _, _, _], _ => rfl) fun f cdv A outer s H E hr => ⟨t_explain_showing K E R_check_showing R_explain_ticket R_choice_of R_paper_text R_explain_paper, (by exact
      (pss_cons (ps_expr (pe_callD c_check_showing hr (by decide) (pa_cons (pv 0) (pa_cons (pv 1) (pa_cons (pv 3) (pa_cons (pv 4) (pa_cons (pv 5) pa_nil)))))))
      (pss_cons (ps_set (i := 6) sc_explain_showing.nd rfl (Or.inl rfl) (pe_ix ix_seq (pv 2) pe_int (fun _ _ => rfl)))
      (pss_cons (ps_if (pt_cmpR (op_notInD (room65 hr)) (pe_slice sl_tupA (pv 6) (po_some pe_int) po_none) (pv 4) (by rfl)) (pss_one (ps_ret pe_non)) pss_nil)
      (pss_cons (ps_asg (pv 5) (pg_tup rfl (pgs_cons (pg_name (i := 12) sc_explain_showing.nd rfl (Or.inl rfl)) (pgs_cons (pg_name (i := 13) sc_explain_showing.nd rfl (Or.inl rfl)) (pgs_cons (pg_name (i := 14) sc_explain_showing.nd rfl (Or.inl rfl)) pgs_nil)))))
      (pss_cons (ps_set (i := 7) sc_explain_showing.nd rfl (Or.inl rfl) (pe_callD c_explain_ticket hr (by decide) (pa_cons (pv 0) (pa_cons (pv 1) (pa_cons (pv 2) (pa_cons (pv 12) (pa_cons (pv 13) pa_nil)))))))
      (pss_cons (ps_if (pt_cmpR o_isN (pv 7) pe_non (nomark _)) (pss_one (ps_ret pe_non)) pss_nil)
      (pss_cons (ps_set (i := 8) sc_explain_showing.nd rfl (Or.inl rfl) (pe_callD c_choice_of hr (by decide) (pa_cons (pv 0) (pa_cons (pv 12) (pa_cons (pv 4) pa_nil)))))
      (pss_cons (ps_set (i := 9) sc_explain_showing.nd rfl (Or.inl rfl) (pe_tup (pa_cons (pe_ix ix_seq (pv 7) pe_int (fun _ _ => rfl)) (pa_cons (pe_op op_mod (pe_op op_mul (pe_ix ix_seq (pv 7) pe_int (fun _ _ => rfl)) (pe_ix ix_seq (pv 6) pe_int (fun _ _ => rfl))) (pe_ix ix_seq (pv 0) pe_int (fun _ _ => rfl))) pa_nil))))
      (pss_cons (ps_set (i := 10) sc_explain_showing.nd rfl (Or.inl rfl) (pe_callD c_paper_text hr (by decide) (pa_cons (pv 3) (pa_cons (pv 4) (pa_cons (pv 12) (pa_cons (pv 13) pa_nil))))))
      (pss_cons (ps_set (i := 11) sc_explain_showing.nd rfl (Or.inl rfl) (pe_callD c_explain_paper hr (by decide) (pa_cons (pe_ix ix_seq (pv 0) pe_int (fun _ _ => rfl)) (pa_cons (pv 10) (pa_cons (pv 8) (pa_cons (pv 14) (pa_cons (pe_bm PySem.F.plainAttrs_list PySem.F.slot_list_index PySem.F.type_list_index (mt_indexD (room65 hr)) (pv 4) (pa_cons (pe_slice sl_tupA (pv 6) (po_some pe_int) po_none) pa_nil)) (pa_cons (pv 9) pa_nil))))))))
      (pss_one (ps_ret (pe_tup (pa_cons (pv 7) (pa_cons (pv 11) pa_nil)))))))))))))))), fun ds o h => bd E ds o h⟩
theorem sc__law_row : FnScope N__law_row ["_law_script"] (defScope (topS 89)) := ⟨rfl, rfl, rfl, by decide +kernel, rfl, by decide +kernel, by decide +kernel⟩
theorem mk__law_row {P : Program} {w : World} {K : PySem.W.Frag} {mg : Str → Option Value} {base : Heap} {R : Con} (T : Tx K mg) (F : Dn K mg "_law_row" "_law_row" (topS 89)) 
    (len : ∀ ds o, R ds o → ds.length = 1) (bd : ∀ E ds o, R ds o → Bd K E (t__law_row K E ) (ro N__law_row ds) o) : Cal P w K mg base "_law_row" 1 R :=
  cal_of (k := 0) F sc__law_row len (fun _ _ _ _ _ _ us hl => match us, hl with | [_], _ => rfl) fun f cdv A outer s H E hr => ⟨t__law_row K E , (by exact
      (pss_cons (ps_set (i := 1) sc__law_row.nd rfl (Or.inl rfl) (pe_lst pa_nil))
      (pss_cons (ps_for (passes_of rfl) rfl (pi_range1 rfl T.fRange (pa_cons (pe_callB k_len (by rfl) T.fLen b_len (pa_cons (pv 0) pa_nil)) pa_nil)) (pg_name (i := 2) sc__law_row.nd rfl (Or.inl rfl)) (pss_cons (ps_set (i := 3) sc__law_row.nd rfl (Or.inl rfl) (pe_callB k_abs (by rfl) T.fAbs b_abs (pa_cons (pe_callTy k_int (by rfl) T.fInt b_int (pa_cons (pe_ix ix_seq (pv 0) (pv 2) (fun _ _ => rfl)) pa_nil)) pa_nil)))
      (pss_one (ps_if (pt_cmpR op_ge (pv 3) (pe_op op_pow pe_int pe_int) (nomark _)) (pss_one (ps_for (passes_of rfl) rfl (pi_range1 rfl T.fRange (pa_cons pe_int pa_nil)) (pg_name (i := 4) sc__law_row.nd rfl (Or.inl rfl)) (pss_one (ps_if (pt_cmpR op_gt (pv 3) pe_int (nomark _)) (pss_cons (ps_expr (pe_bm PySem.F.plainAttrs_list PySem.F.slot_list_append PySem.F.type_list_append mt_append (pv 1) (pa_cons (pe_op op_mod (pe_callTy k_int (by rfl) T.fInt b_int (pa_cons (pv 3) pa_nil)) pe_int) pa_nil)))
      (pss_one (ps_set (i := 3) sc__law_row.nd rfl (Or.inl rfl) (pe_op op_fdiv (pv 3) pe_int)))) pss_nil)))) (pss_cons (ps_set (i := 5) sc__law_row.nd rfl (Or.inl rfl) (pe_op op_mod (pe_callTy k_int (by rfl) T.fInt b_int (pa_cons (pe_op op_add (pe_op op_add (pe_op op_mul (pv 3) pe_int) (pe_op op_mul (pv 2) pe_int)) pe_int) pa_nil)) pe_int))
      (pss_one (ps_for (passes_of rfl) rfl (pi_range1 rfl T.fRange (pa_cons pe_int pa_nil)) (pg_name (i := 4) sc__law_row.nd rfl (Or.inl rfl)) (pss_cons (ps_set (i := 5) sc__law_row.nd rfl (Or.inl rfl) (pe_op op_mod (pe_callTy k_int (by rfl) T.fInt b_int (pa_cons (pe_op op_add (pe_op op_add (pe_op op_mul (pv 5) pe_int) (pe_op op_mul pe_int (pv 4))) pe_int) pa_nil)) pe_int))
      (pss_one (ps_expr (pe_bm PySem.F.plainAttrs_list PySem.F.slot_list_append PySem.F.type_list_append mt_append (pv 1) (pa_cons (pe_op op_mod (pe_callTy k_int (by rfl) T.fInt b_int (pa_cons (pe_op op_fdiv (pv 5) pe_int) pa_nil)) pe_int) pa_nil))))))))))))
      (pss_one (ps_ret (pv 1)))))), fun ds o h => bd E ds o h⟩
theorem sc__law_at : FnScope N__law_at ["_law_row_here", "_law_at_here"] (defScope (topS 90)) := ⟨rfl, rfl, rfl, by decide +kernel, rfl, by decide +kernel, by decide +kernel⟩
theorem mk__law_at {P : Program} {w : World} {K : PySem.W.Frag} {mg : Str → Option Value} {base : Heap} {R : Con} (T : Tx K mg) (F : Dn K mg "_law_at" "_law_at" (topS 90)) 
    (len : ∀ ds o, R ds o → ds.length = 2) (bd : ∀ E ds o, R ds o → Bd K E (t__law_at K E ) (ro N__law_at ds) o) : Cal P w K mg base "_law_at" 1 R :=
  cal_of (k := 0) F sc__law_at len (fun _ _ _ _ _ _ us hl => match us, hl with | [_, _], _ => rfl) fun f cdv A outer s H E hr => ⟨t__law_at K E , (by exact
      (pss_cons (ps_if (pt_chain op_le op_lt pe_int (pv 1) (pe_callB k_len (by rfl) T.fLen b_len (pa_cons (pv 0) pa_nil))) (pss_one (ps_ret (pe_ix ix_seq (pv 0) (pv 1) (fun _ _ => rfl)))) pss_nil)
      (pss_one (ps_ret pe_int)))), fun ds o h => bd E ds o h⟩
theorem sc__law_setup : FnScope N__law_setup ["_law_row_here"] (defScope (topS 91)) := ⟨rfl, rfl, rfl, by decide +kernel, rfl, by decide +kernel, by decide +kernel⟩
theorem mk__law_setup {P : Program} {w : World} {K : PySem.W.Frag} {mg : Str → Option Value} {base : Heap} {R R__law_at R_setup_of : Con} (T : Tx K mg) (F : Dn K mg "_law_setup" "_law_setup" (topS 91)) (c__law_at : Cal P w K mg base "_law_at" 1 R__law_at) (c_setup_of : Cal P w K mg base "setup_of" 5 R_setup_of)
    (len : ∀ ds o, R ds o → ds.length = 1) (bd : ∀ E ds o, R ds o → Bd K E (t__law_setup K E R__law_at R_setup_of) (ro N__law_setup ds) o) : Cal P w K mg base "_law_setup" 6 R :=
  cal_of (k := 5) F sc__law_setup len (fun _ _ _ _ _ _ us hl => match us, hl with | [_], _ => rfl) fun f cdv A outer s H E hr => ⟨t__law_setup K E R__law_at R_setup_of, (by exact
      (pss_cons (ps_set (i := 1) sc__law_setup.nd rfl (Or.inl rfl) (pe_ix ix_seq (pe_lst (pa_cons pe_int (pa_cons pe_int (pa_cons pe_int (pa_cons pe_int (pa_cons pe_int (pa_cons pe_int (pa_cons pe_int (pa_cons pe_int pa_nil))))))))) (pe_op op_mod (pe_callTy k_int (by rfl) T.fInt b_int (pa_cons (pe_callD c__law_at hr (by decide) (pa_cons (pv 0) (pa_cons pe_int pa_nil))) pa_nil)) pe_int) (fun _ _ => rfl)))
      (pss_one (ps_ret (pe_callD c_setup_of hr (by decide) (pa_cons (pv 1) (pa_cons (pe_callTy k_int (by rfl) T.fInt b_int (pa_cons (pe_callD c__law_at hr (by decide) (pa_cons (pv 0) (pa_cons pe_int pa_nil))) pa_nil)) pa_nil))))))), fun ds o h => bd E ds o h⟩
theorem sc__law_person : FnScope N__law_person ["_law_setup_here", "_law_row_here", "_law_at_here"] (defScope (topS 92)) := ⟨rfl, rfl, rfl, by decide +kernel, rfl, by decide +kernel, by decide +kernel⟩
theorem mk__law_person {P : Program} {w : World} {K : PySem.W.Frag} {mg : Str → Option Value} {base : Heap} {R R__law_at R_mark_of : Con} (T : Tx K mg) (F : Dn K mg "_law_person" "_law_person" (topS 92)) (c__law_at : Cal P w K mg base "_law_at" 1 R__law_at) (c_mark_of : Cal P w K mg base "mark_of" 7 R_mark_of)
    (len : ∀ ds o, R ds o → ds.length = 3) (bd : ∀ E ds o, R ds o → Bd K E (t__law_person K E R__law_at R_mark_of) (ro N__law_person ds) o) : Cal P w K mg base "_law_person" 8 R :=
  cal_of (k := 7) F sc__law_person len (fun _ _ _ _ _ _ us hl => match us, hl with | [_, _, _], _ => rfl) fun f cdv A outer s H E hr => ⟨t__law_person K E R__law_at R_mark_of, (by exact
      (pss_cons (ps_set (i := 3) sc__law_person.nd rfl (Or.inl rfl) (pe_tup (pa_cons (pe_op op_mod (pe_callTy k_int (by rfl) T.fInt b_int (pa_cons (pe_callD c__law_at hr (by decide) (pa_cons (pv 1) (pa_cons (pv 2) pa_nil))) pa_nil)) (pe_ix ix_seq (pv 0) pe_int (fun _ _ => rfl))) (pa_cons (pe_op op_mod (pe_callTy k_int (by rfl) T.fInt b_int (pa_cons (pe_callD c__law_at hr (by decide) (pa_cons (pv 1) (pa_cons (pe_op op_add (pv 2) pe_int) pa_nil))) pa_nil)) pe_int) (pa_cons (pe_op op_mod (pe_callTy k_int (by rfl) T.fInt b_int (pa_cons (pe_callD c__law_at hr (by decide) (pa_cons (pv 1) (pa_cons (pe_op op_add (pv 2) pe_int) pa_nil))) pa_nil)) pe_int) pa_nil)))))
      (pss_cons (ps_for (passes_of rfl) rfl (pi_range1 rfl T.fRange (pa_cons pe_int pa_nil)) (pg_name (i := 4) sc__law_person.nd rfl (Or.inl rfl)) (pss_one (ps_try_only (tb := fun W => (tSeq (tDrop (tCallS (spD K R_mark_of) (WE W) (tCons (tVar 0) (tCons (tVar 3) tNil))))
    (tRet (tVar 3)))) (ts := fun _ _ _ => (tAsg (tTup (tCons (tOp aMod (tCB cInt (tCons (tOp aAdd (tOp (rIx K) (tVar 3) (tC (.int 0))) (tC (.int 1))) tNil)) (tOp (rIx K) (tVar 0) (tC (.int 0)))) (tCons (tOp (rIx K) (tVar 3) (tC (.int 1))) (tCons (tOp (rIx K) (tVar 3) (tC (.int 2))) tNil)))) (gName 3))) rfl rfl ⟨rfl, by decide, .inl T.gNA⟩ takes0 (fun W pn xe tk _ => (pss_cons (ps_expr (pe_callX tk c_mark_of hr (by decide) (pa_cons (pv 0) (pa_cons (pv 3) pa_nil))))
      (pss_one (ps_ret (pv 3))))) (fun _ _ _ _ _ _ _ => (pss_one (ps_set (i := 3) sc__law_person.nd rfl (Or.inl rfl) (pe_tup (pa_cons (pe_op op_mod (pe_callTy k_int (by rfl) T.fInt b_int (pa_cons (pe_op op_add (pe_ix ix_seq (pv 3) pe_int (fun _ _ => rfl)) pe_int) pa_nil)) (pe_ix ix_seq (pv 0) pe_int (fun _ _ => rfl))) (pa_cons (pe_ix ix_seq (pv 3) pe_int (fun _ _ => rfl)) (pa_cons (pe_ix ix_seq (pv 3) pe_int (fun _ _ => rfl)) pa_nil))))))))))
      (pss_one (ps_ret (pv 3)))))), fun ds o h => bd E ds o h⟩
theorem sc__law_session : FnScope N__law_session ["_law_setup_here", "_law_secret", "_law_person_here", "_law_row_here", "_law_at_here"] (defScope (topS 93)) := ⟨rfl, rfl, rfl, by decide +kernel, rfl, by decide +kernel, by decide +kernel⟩
theorem mk__law_session {P : Program} {w : World} {K : PySem.W.Frag} {mg : Str → Option Value} {base : Heap} {R R__law_at R_offer_of R_request_of R_grant_of R_key_of R_ticket_of : Con} (T : Tx K mg) (F : Dn K mg "_law_session" "_law_session" (topS 93)) (c__law_at : Cal P w K mg base "_law_at" 1 R__law_at) (c_offer_of : Cal P w K mg base "offer_of" 8 R_offer_of) (c_request_of : Cal P w K mg base "request_of" 9 R_request_of) (c_grant_of : Cal P w K mg base "grant_of" 3 R_grant_of) (c_key_of : Cal P w K mg base "key_of" 5 R_key_of) (c_ticket_of : Cal P w K mg base "ticket_of" 9 R_ticket_of)
    (len : ∀ ds o, R ds o → ds.length = 5) (bd : ∀ E ds o, R ds o → Bd K E (t__law_session K E R__law_at R_offer_of R_request_of R_grant_of R_key_of R_ticket_of) (ro N__law_session ds) o) : Cal P w K mg base "_law_session" 10 R :=
  cal_of (k := 9) F sc__law_session len (fun _ _ _ _ _ _ us hl => match us, hl with | [_, _, _, _, _], _ => rfl) fun f cdv A outer s H E hr => ⟨t__law_session K E R__law_at R_offer_of R_request_of R_grant_of R_key_of R_ticket_of, (by exact
      (pss_cons (ps_set (i := 5) sc__law_session.nd rfl (Or.inr rfl) (pe_ix ix_seq (pv 0) pe_int (fun _ _ => rfl)))
      (pss_cons (ps_set (i := 6) sc__law_session.nd rfl (Or.inr rfl) (pe_lc (own := [("_law_k", 14)]) rfl sc__law_session.nd (pi_range1 rfl T.fRange (pa_cons pe_int pa_nil)) (blkOk_by (own := [("_law_k", 14)]) (N := N__law_session) (sc := defScope (topS 93)) (by decide +kernel)) (fun _ _ _ _ _ => (pg_name (i := 14) sc__law_session.nd rfl (Or.inl rfl))) (fun _ _ _ _ _ => pts_nil) (fun _ _ _ _ _ => (pe_callTy k_int (by rfl) T.fInt b_int (pa_cons (pe_callD c__law_at hr (by decide) (pa_cons (pv 3) (pa_cons (pe_op op_add (pv 4) (pv 14)) pa_nil))) pa_nil)))))
      (pss_cons (ps_set (i := 7) sc__law_session.nd rfl (Or.inl rfl) (pe_callTy k_tuple (by rfl) T.fTuple b_tuple (pa_cons (pe_lc (own := [("_law_k", 14)]) rfl sc__law_session.nd (pi_range1 rfl T.fRange (pa_cons pe_int pa_nil)) (blkOk_by (own := [("_law_k", 14)]) (N := N__law_session) (sc := defScope (topS 93)) (by decide +kernel)) (fun _ _ _ _ _ => (pg_name (i := 14) sc__law_session.nd rfl (Or.inl rfl))) (fun _ _ _ _ _ => pts_nil) (fun _ _ _ _ _ => (pe_op op_mod (pe_ix ix_seq (pv 6) (pe_op op_add pe_int (pv 14)) (fun _ _ => rfl)) (pv 5)))) pa_nil)))
      (pss_cons (ps_set (i := 8) sc__law_session.nd rfl (Or.inl rfl) (pe_tup (pa_cons (pe_op op_add pe_int (pe_op op_mod (pe_ix ix_seq (pv 6) pe_int (fun _ _ => rfl)) (pe_op op_sub (pv 5) pe_int))) (pa_cons (pe_op op_add pe_int (pe_op op_mod (pe_ix ix_seq (pv 6) pe_int (fun _ _ => rfl)) (pe_op op_sub (pv 5) pe_int))) (pa_cons (pe_op op_mod (pe_ix ix_seq (pv 6) pe_int (fun _ _ => rfl)) (pv 5)) (pa_cons (pv 7) pa_nil))))))
      (pss_cons (ps_set (i := 9) sc__law_session.nd rfl (Or.inl rfl) (pe_op op_mod (pe_ix ix_seq (pv 6) pe_int (fun _ _ => rfl)) (pv 5)))
      (pss_cons (ps_set (i := 10) sc__law_session.nd rfl (Or.inl rfl) (pe_callD c_offer_of hr (by decide) (pa_cons (pv 0) (pa_cons (pv 1) (pa_cons (pv 2) (pa_cons (pv 9) pa_nil))))))
      (pss_cons (ps_set (i := 11) sc__law_session.nd rfl (Or.inl rfl) (pe_callD c_request_of hr (by decide) (pa_cons (pv 0) (pa_cons (pv 2) (pa_cons (pv 10) (pa_cons (pv 8) pa_nil))))))
      (pss_cons (ps_set (i := 12) sc__law_session.nd rfl (Or.inl rfl) (pe_callD c_grant_of hr (by decide) (pa_cons (pv 0) (pa_cons (pv 1) (pa_cons (pv 9) (pa_cons (pv 11) pa_nil))))))
      (pss_cons (ps_set (i := 13) sc__law_session.nd rfl (Or.inl rfl) (pe_callD c_ticket_of hr (by decide) (pa_cons (pv 0) (pa_cons (pe_callD c_key_of hr (by decide) (pa_cons (pv 0) (pa_cons (pv 1) pa_nil))) (pa_cons (pv 2) (pa_cons (pv 10) (pa_cons (pv 8) (pa_cons (pv 12) pa_nil))))))))
      (pss_one (ps_ret (pe_tup (pa_cons (pv 13) (pa_cons (pv 8) (pa_cons (pe_tup (pa_cons (pv 2) (pa_cons (pv 10) (pa_cons (pv 11) (pa_cons (pv 12) pa_nil))))) pa_nil)))))))))))))))), fun ds o h => bd E ds o h⟩
theorem sc__law_pairs : FnScope N__law_pairs ["_law_row_here", "_law_at_here", "_law_person_here"] (defScope (topS 94)) := ⟨rfl, rfl, rfl, by decide +kernel, rfl, by decide +kernel, by decide +kernel⟩
theorem mk__law_pairs {P : Program} {w : World} {K : PySem.W.Frag} {mg : Str → Option Value} {base : Heap} {R R__law_at : Con} (T : Tx K mg) (F : Dn K mg "_law_pairs" "_law_pairs" (topS 94)) (c__law_at : Cal P w K mg base "_law_at" 1 R__law_at)
    (len : ∀ ds o, R ds o → ds.length = 3) (bd : ∀ E ds o, R ds o → Bd K E (t__law_pairs K E R__law_at) (ro N__law_pairs ds) o) : Cal P w K mg base "_law_pairs" 2 R :=
  cal_of (k := 1) F sc__law_pairs len (fun _ _ _ _ _ _ us hl => match us, hl with | [_, _, _], _ => rfl) fun f cdv A outer s H E hr => ⟨t__law_pairs K E R__law_at, (by exact
      (pss_cons (ps_set (i := 3) sc__law_pairs.nd rfl (Or.inl rfl) (pe_lst pa_nil))
      (pss_cons (ps_for (passes_of rfl) rfl (pi_range1 rfl T.fRange (pa_cons pe_int pa_nil)) (pg_name (i := 4) sc__law_pairs.nd rfl (Or.inl rfl)) (pss_one (ps_if (PW.pt (pw_or (pt_cmpR op_eq (pe_op op_mod (pe_op op_fdiv (pe_callTy k_int (by rfl) T.fInt b_int (pa_cons (pe_callD c__law_at hr (by decide) (pa_cons (pv 0) (pa_cons (pe_op op_add (pv 1) (pe_op op_fdiv (pv 4) pe_int)) pa_nil))) pa_nil)) (pe_op op_add pe_int (pe_op op_mod (pv 4) pe_int))) pe_int) pe_int (nomark _)) (pw_or1 (pt_cmpR (op_eqD hr.units) (pe_tup (pa_cons (pe_op op_fdiv (pv 4) pe_int) (pa_cons (pe_op op_mod (pv 4) pe_int) pa_nil))) (pe_slice sl_tupA (pv 2) (po_some pe_int) po_none) (nomark _))))) (pss_one (ps_expr (pe_bm PySem.F.plainAttrs_list PySem.F.slot_list_append PySem.F.type_list_append mt_append (pv 3) (pa_cons (pe_tup (pa_cons (pe_op op_fdiv (pv 4) pe_int) (pa_cons (pe_op op_mod (pv 4) pe_int) pa_nil))) pa_nil)))) pss_nil)))
      (pss_one (ps_ret (pv 3)))))), fun ds o h => bd E ds o h⟩
theorem sc__law_noise : FnScope N__law_noise ["_law_q", "_law_pairs_here", "_law_own", "_law_row_here", "_law_at_here"] (defScope (topS 95)) := ⟨rfl, rfl, rfl, by decide +kernel, rfl, by decide +kernel, by decide +kernel⟩
theorem mk__law_noise {P : Program} {w : World} {K : PySem.W.Frag} {mg : Str → Option Value} {base : Heap} {R R__law_at : Con} (T : Tx K mg) (F : Dn K mg "_law_noise" "_law_noise" (topS 95)) (c__law_at : Cal P w K mg base "_law_at" 1 R__law_at)
    (len : ∀ ds o, R ds o → ds.length = 5) (bd : ∀ E ds o, R ds o → Bd K E (t__law_noise K E R__law_at) (ro N__law_noise ds) o) : Cal P w K mg base "_law_noise" 2 R :=
  cal_of (k := 1) F sc__law_noise len (fun _ _ _ _ _ _ us hl => match us, hl with | [_, _, _, _, _], _ => rfl) fun f cdv A outer s H E hr => ⟨t__law_noise K E R__law_at, (by exact
      (pss_cons (ps_set (i := 5) sc__law_noise.nd rfl (Or.inl rfl) (pe_lst pa_nil))
      (pss_cons (ps_for (passes_of rfl) rfl (pi_range1 rfl T.fRange (pa_cons (pe_callB k_len (by rfl) T.fLen b_len (pa_cons (pv 1) pa_nil)) pa_nil)) (pg_name (i := 6) sc__law_noise.nd rfl (Or.inl rfl)) (pss_cons (ps_set (i := 7) sc__law_noise.nd rfl (Or.inl rfl) (pe_op op_mod (pe_callTy k_int (by rfl) T.fInt b_int (pa_cons (pe_callD c__law_at hr (by decide) (pa_cons (pv 3) (pa_cons (pe_op op_add (pv 4) (pe_op op_mul pe_int (pv 6))) pa_nil))) pa_nil)) (pv 0)))
      (pss_cons (ps_if (pt_cmpR (op_eqD hr.units) (pe_ix ix_seq (pv 1) (pv 6) (fun _ _ => rfl)) (pv 2) (nomark _)) (pss_one (ps_set (i := 7) sc__law_noise.nd rfl (Or.inl rfl) pe_int)) pss_nil)
      (pss_one (ps_expr (pe_bm PySem.F.plainAttrs_list PySem.F.slot_list_append PySem.F.type_list_append mt_append (pv 5) (pa_cons (pe_tup (pa_cons (pv 7) (pa_cons (pe_tup (pa_cons (pe_op op_mod (pe_callTy k_int (by rfl) T.fInt b_int (pa_cons (pe_callD c__law_at hr (by decide) (pa_cons (pv 3) (pa_cons (pe_op op_add (pe_op op_add (pv 4) (pe_op op_mul pe_int (pv 6))) pe_int) pa_nil))) pa_nil)) (pv 0)) (pa_cons (pe_op op_mod (pe_callTy k_int (by rfl) T.fInt b_int (pa_cons (pe_callD c__law_at hr (by decide) (pa_cons (pv 3) (pa_cons (pe_op op_add (pe_op op_add (pv 4) (pe_op op_mul pe_int (pv 6))) pe_int) pa_nil))) pa_nil)) (pv 0)) pa_nil))) pa_nil))) pa_nil)))))))
      (pss_one (ps_ret (pe_callTy k_tuple (by rfl) T.fTuple b_tuple (pa_cons (pv 5) pa_nil))))))), fun ds o h => bd E ds o h⟩
theorem sc__law_replayed : FnScope N__law_replayed ["_law_setup_here", "_law_key", "_law_record", "_law_context", "_law_pairs_here", "_law_blinding", "_law_noise_here"] (defScope (topS 96)) := ⟨rfl, rfl, rfl, by decide +kernel, rfl, by decide +kernel, by decide +kernel⟩
theorem mk__law_replayed {P : Program} {w : World} {K : PySem.W.Frag} {mg : Str → Option Value} {base : Heap} {R R_request_of R_ticket_of R_make_showing : Con} (T : Tx K mg) (F : Dn K mg "_law_replayed" "_law_replayed" (topS 96)) (c_request_of : Cal P w K mg base "request_of" 9 R_request_of) (c_ticket_of : Cal P w K mg base "ticket_of" 9 R_ticket_of) (c_make_showing : Cal P w K mg base "make_showing" 9 R_make_showing)
    (len : ∀ ds o, R ds o → ds.length = 7) (bd : ∀ E ds o, R ds o → Bd K E (t__law_replayed K E R_request_of R_ticket_of R_make_showing) (ro N__law_replayed ds) o) : Cal P w K mg base "_law_replayed" 10 R :=
  cal_of (k := 9) F sc__law_replayed len (fun _ _ _ _ _ _ us hl => match us, hl with | [_, _, _, _, _, _, _], _ => rfl) fun f cdv A outer s H E hr => ⟨t__law_replayed K E R_request_of R_ticket_of R_make_showing, (by exact
      (pss_cons (ps_asg (pv 2) (pg_tup rfl (pgs_cons (pg_name (i := 7) sc__law_replayed.nd rfl (Or.inl rfl)) (pgs_cons (pg_name (i := 8) sc__law_replayed.nd rfl (Or.inl rfl)) (pgs_cons (pg_name (i := 9) sc__law_replayed.nd rfl (Or.inl rfl)) (pgs_cons (pg_name (i := 10) sc__law_replayed.nd rfl (Or.inl rfl)) pgs_nil))))))
      (pss_cons (ps_try_thru0 (pss_cons (ps_if (pt_cmpR op_ne (pe_callD c_request_of hr (by decide) (pa_cons (pv 0) (pa_cons (pv 7) (pa_cons (pv 8) (pa_cons (pv 5) pa_nil))))) (pv 9) (nomark _)) (pss_one (ps_ret pe_str)) pss_nil)
      (pss_one (ps_set (i := 11) sc__law_replayed.nd rfl (Or.inl rfl) (pe_callD c_ticket_of hr (by decide) (pa_cons (pv 0) (pa_cons (pv 1) (pa_cons (pv 7) (pa_cons (pv 8) (pa_cons (pv 5) (pa_cons (pv 10) pa_nil)))))))))))
      (pss_one (ps_ret (pe_callD c_make_showing hr (by decide) (pa_cons (pv 0) (pa_cons (pv 7) (pa_cons (pv 11) (pa_cons (pv 5) (pa_cons (pv 3) (pa_cons (pv 4) (pa_cons (pv 6) pa_nil))))))))))))), fun ds o h => bd E ds o h⟩
theorem sc__law_varied : FnScope N__law_varied ["_law_blinding", "_law_noise_here", "_law_number", "_law_q", "_law_own"] (defScope (topS 97)) := ⟨rfl, rfl, rfl, by decide +kernel, rfl, by decide +kernel, by decide +kernel⟩
theorem mk__law_varied {P : Program} {w : World} {K : PySem.W.Frag} {mg : Str → Option Value} {base : Heap} {R : Con} (T : Tx K mg) (F : Dn K mg "_law_varied" "_law_varied" (topS 97)) 
    (len : ∀ ds o, R ds o → ds.length = 5) (bd : ∀ E ds o, R ds o → Bd K E (t__law_varied K E ) (ro N__law_varied ds) o) : Cal P w K mg base "_law_varied" 1 R :=
  cal_of (k := 0) F sc__law_varied len (fun _ _ _ _ _ _ us hl => match us, hl with | [_, _, _, _, _], _ => rfl) fun f cdv A outer s H E hr => ⟨t__law_varied K E , (by exact
      (pss_cons (ps_set (i := 5) sc__law_varied.nd rfl (Or.inl rfl) (pe_op op_mod (pe_callTy k_int (by rfl) T.fInt b_int (pa_cons (pv 2) pa_nil)) pe_int))
      (pss_cons (ps_if (pt_cmpR op_lt (pv 5) pe_int (nomark _)) (pss_cons (ps_set (i := 8) sc__law_varied.nd rfl (Or.inl rfl) (pe_callTy k_int (by rfl) T.fInt b_int (pa_cons (pe_cmpR op_lt (pv 5) pe_int (nomark _)) pa_nil)))
      (pss_cons (ps_set (i := 9) sc__law_varied.nd rfl (Or.inl rfl) (pe_callTy k_list (by rfl) T.fList b_list (pa_cons (pe_slice sl_tupA (pv 0) po_none (po_some pe_int)) pa_nil)))
      (pss_cons (ps_asg (pe_op op_add (pv 8) (pe_op op_mod (pe_callTy k_int (by rfl) T.fInt b_int (pa_cons (pe_op op_add (pe_op op_sub (pe_ix ix_seq (pv 9) (pv 5) (fun _ _ => rfl)) (pv 8)) pe_int) pa_nil)) (pe_op op_sub (pv 3) (pv 8)))) (pg_sub (pv 9) (pv 5) set_list))
      (pss_one (ps_ret (pe_tup (pa_cons (pe_op op_catA (pe_callTy k_tuple (by rfl) T.fTuple b_tuple (pa_cons (pv 9) pa_nil)) (pe_tup (pa_cons (pe_ix ix_seq (pv 0) pe_int (fun _ _ => rfl)) pa_nil))) (pa_cons (pv 1) pa_nil)))))))) pss_nil)
      (pss_cons (ps_if (pt_cmpR op_lt (pv 5) pe_int (nomark _)) (pss_cons (ps_set (i := 10) sc__law_varied.nd rfl (Or.inl rfl) (pe_callTy k_list (by rfl) T.fList b_list (pa_cons (pe_ix ix_seq (pv 0) pe_int (fun _ _ => rfl)) pa_nil)))
      (pss_cons (ps_asg (pe_op op_mod (pe_callTy k_int (by rfl) T.fInt b_int (pa_cons (pe_op op_add (pe_ix ix_seq (pv 10) (pe_op op_sub (pv 5) pe_int) (fun _ _ => rfl)) pe_int) pa_nil)) (pv 3)) (pg_sub (pv 10) (pe_op op_sub (pv 5) pe_int) set_list))
      (pss_one (ps_ret (pe_tup (pa_cons (pe_op op_catA (pe_slice sl_tupA (pv 0) po_none (po_some pe_int)) (pe_tup (pa_cons (pe_callTy k_tuple (by rfl) T.fTuple b_tuple (pa_cons (pv 10) pa_nil)) pa_nil))) (pa_cons (pv 1) pa_nil))))))) pss_nil)
      (pss_cons (ps_set (i := 6) sc__law_varied.nd rfl (Or.inl rfl) (pe_op op_mod (pe_op op_fdiv (pe_callTy k_int (by rfl) T.fInt b_int (pa_cons (pv 2) pa_nil)) pe_int) (pe_callB k_len (by rfl) T.fLen b_len (pa_cons (pv 1) pa_nil))))
      (pss_cons (ps_setLc (i := 7) (own := [("_law_pair", 11)]) rfl sc__law_varied.nd rfl rfl (sw_true rfl rfl rfl (by decide +kernel)) (pi_seq (pv 1)) (blkOk_by (own := [("_law_pair", 11)]) (N := N__law_varied) (sc := defScope (topS 97)) (by decide +kernel)) (fun _ _ _ _ _ => (pg_name (i := 11) sc__law_varied.nd rfl (Or.inl rfl))) (fun _ _ _ _ _ => pts_nil) (fun _ _ _ _ _ => (pe_tup (pa_cons (pe_ix ix_seq (pv 11) pe_int (fun _ _ => rfl)) (pa_cons (pe_callTy k_list (by rfl) T.fList b_list (pa_cons (pe_ix ix_seq (pv 11) pe_int (fun _ _ => rfl)) pa_nil)) pa_nil)))))
      (pss_cons (ps_if (PW.pt (pw_and (pt_cmpR op_eq (pv 5) pe_int (nomark _)) (pw_and1 (pt_cmpR op_ne (pv 6) (pv 4) (nomark _))))) (pss_one (ps_asg (pe_tup (pa_cons (pe_op op_mod (pe_callTy k_int (by rfl) T.fInt b_int (pa_cons (pe_op op_add (pe_ix ix_seq (pe_ix ix_seq (pv 7) (pv 6) (fun _ _ => rfl)) pe_int (fun _ _ => rfl)) pe_int) pa_nil)) (pv 3)) (pa_cons (pe_ix ix_seq (pe_ix ix_seq (pv 7) (pv 6) (fun _ _ => rfl)) pe_int (fun _ _ => rfl)) pa_nil))) (pg_sub (pv 7) (pv 6) set_list))) (pss_one (ps_asg (pe_op op_mod (pe_callTy k_int (by rfl) T.fInt b_int (pa_cons (pe_op op_add (pe_ix ix_seq (pe_ix ix_seq (pe_ix ix_seq (pv 7) (pv 6) (fun _ _ => rfl)) pe_int (fun _ _ => rfl)) (pe_op op_mod (pv 5) pe_int) (fun _ _ => rfl)) pe_int) pa_nil)) (pv 3)) (pg_sub (pe_ix ix_seq (pe_ix ix_seq (pv 7) (pv 6) (fun _ _ => rfl)) pe_int (fun _ _ => rfl)) (pe_op op_mod (pv 5) pe_int) set_list))))
      (pss_one (ps_ret (pe_tup (pa_cons (pv 0) (pa_cons (pe_callTy k_tuple (by rfl) T.fTuple b_tuple (pa_cons (pe_lc (own := [("_law_pair", 11)]) rfl sc__law_varied.nd (pi_seq (pv 7)) (blkOk_by (own := [("_law_pair", 11)]) (N := N__law_varied) (sc := defScope (topS 97)) (by decide +kernel)) (fun _ _ _ _ _ => (pg_name (i := 11) sc__law_varied.nd rfl (Or.inl rfl))) (fun _ _ _ _ _ => pts_nil) (fun _ _ _ _ _ => (pe_tup (pa_cons (pe_ix ix_seq (pv 11) pe_int (fun _ _ => rfl)) (pa_cons (pe_callTy k_tuple (by rfl) T.fTuple b_tuple (pa_cons (pe_ix ix_seq (pv 11) pe_int (fun _ _ => rfl)) pa_nil)) pa_nil))))) pa_nil)) pa_nil)))))))))))), fun ds o h => bd E ds o h⟩
theorem sc_law : FnScope N_law ["_law_script"] (defScope (topS 98)) := ⟨rfl, rfl, rfl, by decide +kernel, rfl, by decide +kernel, by decide +kernel⟩
theorem mk_law {P : Program} {w : World} {K : PySem.W.Frag} {mg : Str → Option Value} {base : Heap} {R R__law_row R__law_setup R__law_at R__law_person R__law_session R__law_pairs R__law_noise R_make_showing R_key_of R_explain_showing R_mark_of R__law_replayed R__law_varied : Con} (T : Tx K mg) (F : Dn K mg "law" "law" (topS 98)) (c__law_row : Cal P w K mg base "_law_row" 1 R__law_row) (c__law_setup : Cal P w K mg base "_law_setup" 6 R__law_setup) (c__law_at : Cal P w K mg base "_law_at" 1 R__law_at) (c__law_person : Cal P w K mg base "_law_person" 8 R__law_person) (c__law_session : Cal P w K mg base "_law_session" 10 R__law_session) (c__law_pairs : Cal P w K mg base "_law_pairs" 2 R__law_pairs) (c__law_noise : Cal P w K mg base "_law_noise" 2 R__law_noise) (c_make_showing : Cal P w K mg base "make_showing" 9 R_make_showing) (c_key_of : Cal P w K mg base "key_of" 5 R_key_of) (c_explain_showing : Cal P w K mg base "explain_showing" 11 R_explain_showing) (c_mark_of : Cal P w K mg base "mark_of" 7 R_mark_of) (c__law_replayed : Cal P w K mg base "_law_replayed" 10 R__law_replayed) (c__law_varied : Cal P w K mg base "_law_varied" 1 R__law_varied)
    (len : ∀ ds o, R ds o → ds.length = 1) (bd : ∀ E ds o, R ds o → Bd K E (t_law K E R__law_row R__law_setup R__law_at R__law_person R__law_session R__law_pairs R__law_noise R_make_showing R_key_of R_explain_showing R_mark_of R__law_replayed R__law_varied) (ro N_law ds) o) : Cal P w K mg base "law" 12 R :=
  cal_of (k := 11) F sc_law len (fun _ _ _ _ _ _ us hl => match us, hl with | [_], _ => rfl) fun f cdv A outer s H E hr => ⟨t_law K E R__law_row R__law_setup R__law_at R__law_person R__law_session R__law_pairs R__law_noise R_make_showing R_key_of R_explain_showing R_mark_of R__law_replayed R__law_varied, (by exact
      (pss_cons (ps_set (i := 1) sc_law.nd rfl (Or.inl rfl) (pe_callD c__law_row hr (by decide) (pa_cons (pv 0) pa_nil)))
      (pss_cons (ps_set (i := 2) sc_law.nd rfl (Or.inl rfl) (pe_callD c__law_setup hr (by decide) (pa_cons (pv 1) pa_nil)))
      (pss_cons (ps_set (i := 3) sc_law.nd rfl (Or.inl rfl) (pe_ix ix_seq (pv 2) pe_int (fun _ _ => rfl)))
      (pss_cons (ps_set (i := 4) sc_law.nd rfl (Or.inl rfl) (pe_lst (pa_cons (pe_op op_add pe_int (pe_op op_mod (pe_callTy k_int (by rfl) T.fInt b_int (pa_cons (pe_callD c__law_at hr (by decide) (pa_cons (pv 1) (pa_cons pe_int pa_nil))) pa_nil)) (pe_op op_sub (pv 3) pe_int))) (pa_cons (pe_op op_add pe_int (pe_op op_mod (pe_callTy k_int (by rfl) T.fInt b_int (pa_cons (pe_callD c__law_at hr (by decide) (pa_cons (pv 1) (pa_cons pe_int pa_nil))) pa_nil)) (pe_op op_sub (pv 3) pe_int))) pa_nil))))
      (pss_cons (ps_set (i := 5) sc_law.nd rfl (Or.inl rfl) (pe_callD c__law_person hr (by decide) (pa_cons (pv 2) (pa_cons (pv 1) (pa_cons pe_int pa_nil)))))
      (pss_cons (ps_asg (pe_callD c__law_session hr (by decide) (pa_cons (pv 2) (pa_cons (pe_ix ix_seq (pv 4) pe_int (fun _ _ => rfl)) (pa_cons (pv 5) (pa_cons (pv 1) (pa_cons pe_int pa_nil)))))) (pg_tup rfl (pgs_cons (pg_name (i := 13) sc_law.nd rfl (Or.inl rfl)) (pgs_cons (pg_name (i := 14) sc_law.nd rfl (Or.inl rfl)) (pgs_cons (pg_name (i := 15) sc_law.nd rfl (Or.inl rfl)) pgs_nil)))))
      (pss_cons (ps_set (i := 6) sc_law.nd rfl (Or.inl rfl) (pe_slice sl_list (pe_callD c__law_pairs hr (by decide) (pa_cons (pv 1) (pa_cons pe_int (pa_cons (pv 5) pa_nil)))) po_none (po_some (pe_ix ix_seq (pe_lst (pa_cons pe_int (pa_cons pe_int pa_nil))) (pe_callTy k_int (by rfl) T.fInt b_int (pa_cons (pe_cmpR op_eq (pe_op op_mod (pe_callTy k_int (by rfl) T.fInt b_int (pa_cons (pe_callD c__law_at hr (by decide) (pa_cons (pv 1) (pa_cons pe_int pa_nil))) pa_nil)) pe_int) pe_int (nomark _)) pa_nil)) (fun _ _ => rfl)))))
      (pss_cons (ps_if (pt_cmpR (op_notInD (room65 hr)) (pe_slice sl_tupA (pv 5) (po_some pe_int) po_none) (pv 6) (by rfl)) (pss_one (ps_set (i := 6) sc_law.nd rfl (Or.inl rfl) (pe_lst (pa_cons (pe_slice sl_tupA (pv 5) (po_some pe_int) po_none) pa_nil)))) pss_nil)
      (pss_cons (ps_set (i := 7) sc_law.nd rfl (Or.inl rfl) (pe_tup (pa_cons (pe_ix ix_seq (pe_lst (pa_cons pe_str (pa_cons pe_str (pa_cons pe_str pa_nil)))) (pe_op op_mod (pe_callTy k_int (by rfl) T.fInt b_int (pa_cons (pe_callD c__law_at hr (by decide) (pa_cons (pv 1) (pa_cons pe_int pa_nil))) pa_nil)) pe_int) (fun _ _ => rfl)) (pa_cons (pe_callTy k_int (by rfl) T.fInt b_int (pa_cons (pe_callD c__law_at hr (by decide) (pa_cons (pv 1) (pa_cons pe_int pa_nil))) pa_nil)) pa_nil))))
      (pss_cons (ps_set (i := 8) sc_law.nd rfl (Or.inl rfl) (pe_callD c__law_noise hr (by decide) (pa_cons (pv 3) (pa_cons (pv 6) (pa_cons (pe_slice sl_tupA (pv 5) (po_some pe_int) po_none) (pa_cons (pv 1) (pa_cons pe_int pa_nil)))))))
      (pss_cons (ps_set (i := 9) sc_law.nd rfl (Or.inl rfl) (pe_callD c_make_showing hr (by decide) (pa_cons (pv 2) (pa_cons (pv 5) (pa_cons (pv 13) (pa_cons (pv 14) (pa_cons (pv 7) (pa_cons (pv 6) (pa_cons (pv 8) pa_nil)))))))))
      (pss_cons (ps_set (i := 10) sc_law.nd rfl (Or.inl rfl) (pe_callD c_key_of hr (by decide) (pa_cons (pv 2) (pa_cons (pe_ix ix_seq (pv 4) pe_int (fun _ _ => rfl)) pa_nil))))
      (pss_cons (ps_if (pt_cmpR (op_neD hr.units) (pe_callD c_explain_showing hr (by decide) (pa_cons (pv 2) (pa_cons (pv 10) (pa_cons (pv 15) (pa_cons (pv 7) (pa_cons (pv 6) (pa_cons (pv 9) pa_nil))))))) (pe_tup (pa_cons (pv 14) (pa_cons (pv 8) pa_nil))) (nomark _)) (pss_one (ps_ret pe_bl)) pss_nil)
      (pss_cons (ps_for (passes_of rfl) rfl (pi_seq (pe_lst (pa_cons (pe_tup (pa_cons (pe_op op_add (pe_ix ix_seq (pv 15) pe_int (fun _ _ => rfl)) pe_int) (pa_cons (pe_ix ix_seq (pv 15) pe_int (fun _ _ => rfl)) pa_nil))) (pa_cons (pe_tup (pa_cons (pe_ix ix_seq (pv 15) pe_int (fun _ _ => rfl)) (pa_cons (pe_op op_add (pe_ix ix_seq (pv 15) pe_int (fun _ _ => rfl)) pe_int) pa_nil))) (pa_cons (pe_tup (pa_cons (pe_op op_sub (pe_ix ix_seq (pv 15) pe_int (fun _ _ => rfl)) pe_int) (pa_cons (pe_ix ix_seq (pv 15) pe_int (fun _ _ => rfl)) pa_nil))) (pa_cons (pe_tup (pa_cons (pe_ix ix_seq (pv 15) pe_int (fun _ _ => rfl)) (pa_cons (pe_op op_sub (pe_ix ix_seq (pv 15) pe_int (fun _ _ => rfl)) pe_int) pa_nil))) pa_nil)))))) (pg_name (i := 11) sc_law.nd rfl (Or.inl rfl)) (pss_cons (ps_set (i := 16) sc_law.nd rfl (Or.inl rfl) (pe_op op_catA (pe_slice sl_tupA (pv 15) po_none (po_some pe_int)) (pe_tup (pa_cons (pe_op op_mod (pe_callTy k_int (by rfl) T.fInt b_int (pa_cons (pe_ix ix_seq (pv 11) pe_int (fun _ _ => rfl)) pa_nil)) (pv 3)) (pa_cons (pe_op op_mod (pe_callTy k_int (by rfl) T.fInt b_int (pa_cons (pe_ix ix_seq (pv 11) pe_int (fun _ _ => rfl)) pa_nil)) (pv 3)) pa_nil)))))
      (pss_one (ps_if (pt_cmpR o_notN (pe_callD c_explain_showing hr (by decide) (pa_cons (pv 2) (pa_cons (pv 10) (pa_cons (pv 16) (pa_cons (pv 7) (pa_cons (pv 6) (pa_cons (pv 9) pa_nil))))))) pe_non (nomark _)) (pss_one (ps_ret pe_bl)) pss_nil))))
      (pss_cons (ps_for (passes_of rfl) rfl (pi_range1 rfl T.fRange (pa_cons (pe_op op_add pe_int (pe_op op_mod (pe_callTy k_int (by rfl) T.fInt b_int (pa_cons (pe_callD c__law_at hr (by decide) (pa_cons (pv 1) (pa_cons pe_int pa_nil))) pa_nil)) pe_int)) pa_nil)) (pg_name (i := 12) sc_law.nd rfl (Or.inl rfl)) (pss_cons (ps_set (i := 17) sc_law.nd rfl (Or.inl rfl) (pe_callD c__law_person hr (by decide) (pa_cons (pv 2) (pa_cons (pv 1) (pa_cons (pe_op op_add pe_int (pe_op op_mul pe_int (pv 12))) pa_nil)))))
      (pss_cons (ps_if (pt_cmpR op_eq (pe_op op_mod (pe_callTy k_int (by rfl) T.fInt b_int (pa_cons (pe_callD c__law_at hr (by decide) (pa_cons (pv 1) (pa_cons (pe_op op_add pe_int (pe_op op_mul pe_int (pv 12))) pa_nil))) pa_nil)) pe_int) pe_int (nomark _)) (pss_one (ps_set (i := 17) sc_law.nd rfl (Or.inl rfl) (pe_tup (pa_cons (pe_ix ix_seq (pv 17) pe_int (fun _ _ => rfl)) (pa_cons (pe_ix ix_seq (pv 5) pe_int (fun _ _ => rfl)) (pa_cons (pe_ix ix_seq (pv 5) pe_int (fun _ _ => rfl)) pa_nil)))))) pss_nil)
      (pss_cons (ps_try_only (tb := fun W => (tDrop (tCallS (spD K R_mark_of) (WE W) (tCons (tVar 2) (tCons (tVar 17) tNil))))) (ts := fun _ _ _ => (tAsg (tVar 5) (gName 17))) rfl rfl ⟨rfl, by decide, .inl T.gNA⟩ takes0 (fun W pn xe tk _ => (pss_one (ps_expr (pe_callX tk c_mark_of hr (by decide) (pa_cons (pv 2) (pa_cons (pv 17) pa_nil)))))) (fun _ _ _ _ _ _ _ => (pss_one (ps_set (i := 17) sc_law.nd rfl (Or.inl rfl) (pv 5)))))
      (pss_cons (ps_set (i := 18) sc_law.nd rfl (Or.inl rfl) (pe_ix ix_seq (pv 4) (pe_op op_fdiv (pe_op op_mod (pe_callTy k_int (by rfl) T.fInt b_int (pa_cons (pe_callD c__law_at hr (by decide) (pa_cons (pv 1) (pa_cons (pe_op op_add pe_int (pv 12)) pa_nil))) pa_nil)) pe_int) pe_int) (fun _ _ => rfl)))
      (pss_cons (ps_asg (pe_callD c__law_session hr (by decide) (pa_cons (pv 2) (pa_cons (pv 18) (pa_cons (pv 17) (pa_cons (pv 1) (pa_cons (pe_op op_add pe_int (pe_op op_mul pe_int (pv 12))) pa_nil)))))) (pg_tup rfl (pgs_cons (pg_name (i := 20) sc_law.nd rfl (Or.inl rfl)) (pgs_cons (pg_name (i := 21) sc_law.nd rfl (Or.inl rfl)) (pgs_cons (pg_name (i := 22) sc_law.nd rfl (Or.inl rfl)) pgs_nil)))))
      (pss_cons (ps_set (i := 19) sc_law.nd rfl (Or.inl rfl) (pe_callD c_explain_showing hr (by decide) (pa_cons (pv 2) (pa_cons (pv 10) (pa_cons (pv 22) (pa_cons (pv 7) (pa_cons (pv 6) (pa_cons (pv 9) pa_nil))))))))
      (pss_one (ps_if (PW.pt (pw_or (pt_cmpR (op_notInD (room65 hr)) (pe_slice sl_tupA (pv 17) (po_some pe_int) po_none) (pv 6) (by rfl)) (pw_or1 (pt_cmpR op_ne (pv 18) (pe_ix ix_seq (pv 4) pe_int (fun _ _ => rfl)) (nomark _))))) (pss_one (ps_if (pt_cmpR o_notN (pv 19) pe_non (nomark _)) (pss_one (ps_ret pe_bl)) pss_nil)) (pss_cons (ps_if (PW.pt (pw_or (pt_not (pt_val (pe_callB RZ.call_isTy (by rfl) T.fIsinstance b_isinstance (pa_cons (pv 19) (pa_cons (pe_bltn (v := .ty "tuple") rfl T.fTuple b_tuple rfl) pa_nil))))) (pw_or1 (pt_cmpR op_ne (pe_callB k_len (by rfl) T.fLen b_len (pa_cons (pv 19) pa_nil)) pe_int (nomark _))))) (pss_one (ps_ret pe_bl)) pss_nil)
      (pss_cons (ps_if (pt_cmpR (op_neD hr.units) (pe_callD c__law_replayed hr (by decide) (pa_cons (pv 2) (pa_cons (pv 10) (pa_cons (pv 22) (pa_cons (pv 7) (pa_cons (pv 6) (pa_cons (pe_ix ix_seq (pv 19) pe_int (fun _ _ => rfl)) (pa_cons (pe_ix ix_seq (pv 19) pe_int (fun _ _ => rfl)) pa_nil)))))))) (pv 9) (nomark _)) (pss_one (ps_ret pe_bl)) pss_nil)
      (pss_cons (ps_set (i := 23) sc_law.nd rfl (Or.inl rfl) (pe_bm PySem.F.plainAttrs_list PySem.F.slot_list_index PySem.F.type_list_index (mt_indexD (room65 hr)) (pv 6) (pa_cons (pe_slice sl_tupA (pv 17) (po_some pe_int) po_none) pa_nil)))
      (pss_cons (ps_set (i := 24) sc_law.nd rfl (Or.inl rfl) (pe_callD c__law_varied hr (by decide) (pa_cons (pe_ix ix_seq (pv 19) pe_int (fun _ _ => rfl)) (pa_cons (pe_ix ix_seq (pv 19) pe_int (fun _ _ => rfl)) (pa_cons (pe_callD c__law_at hr (by decide) (pa_cons (pv 1) (pa_cons (pe_op op_add pe_int (pv 12)) pa_nil))) (pa_cons (pv 3) (pa_cons (pv 23) pa_nil)))))))
      (pss_one (ps_if (pt_cmpR (op_eqD hr.units) (pe_callD c__law_replayed hr (by decide) (pa_cons (pv 2) (pa_cons (pv 10) (pa_cons (pv 22) (pa_cons (pv 7) (pa_cons (pv 6) (pa_cons (pe_ix ix_seq (pv 24) pe_int (fun _ _ => rfl)) (pa_cons (pe_ix ix_seq (pv 24) pe_int (fun _ _ => rfl)) pa_nil)))))))) (pv 9) (nomark _)) (pss_one (ps_ret pe_bl)) pss_nil)))))))))))))))
      (pss_one (ps_ret pe_bl)))))))))))))))))), fun ds o h => bd E ds o h⟩
end Ck

/-! The law and its _law_row, by promises over a list that nobody changes. -/
namespace Ck
open PySem PySem.Spec PyProof.Rows L2
structure CalS (P : Program) (w : World) (K : PySem.W.Frag) (mg : Str → Option Value) (base : Heap) (x : Str) (k : Nat) (sp : Sp) : Prop where
  ex : ∃ f fd ps, FnOk P w K mg base (L2.CX P w) k f fd ps sp ∧ mg x = some (.ref f) ∧ PySem.W.keepIn K (.ref f) = true ∧ Binds K fd ps []
section
variable {X : Cx} {x : Str} {k j : Nat} {sp : Sp} {p pos : Pos} {e : Expr} {es : List Expr} {t : TA}
theorem pe_callR (C : CalS X.prog X.w X.K X.mg X.base x k sp) (hr : Room j X.A) (hj : k ≤ j) (ha : PA X (e :: es) t) (hg : Gl X x := by rfl) (hdb : (x == ("__debug__" : Str)) = false := by decide)
    (he : starEach (e :: es) X.env = (false, eval e X.env) :: starEach es X.env := by rfl) (hpl : (backTo pos (starEach es X.env)).any (·.1) = false := by rfl) :
    PE X (.Call (.Name x p) (e :: es) [] pos) (tCallS sp (WE W0) t) := by
  obtain ⟨f, fd, ps, F, hm, hk, hb⟩ := C.ex
  exact pe_callS F (hr.mono hj) hg hm hk hb (fun _ => passW0) ha hdb he hpl
end
section
variable {P : Program} {w : World} {K : PySem.W.Frag} {mg : Str → Option Value} {base : Heap}
theorem fn_of {n : Str} {st : Stmt} {N ps : List Str} {k : Nat} {f : Addr} {fd : FuncData} {sp : Sp} (F : FunD K n n (defArgs st) (defBody st) (defScope st) [] [] f fd) (S : FnScope N ps (defScope st)) (len : ∀ vs H Q E, sp vs H Q E → vs.length = ps.length)
    (body : ∀ (cdv : Value) (A : Around) (outer : List Env) (s : Shared) (H : Hp) (E : XK), Room k (A.deeper (envOfC n (defScope st) s.heap.objs.size f cdv)) →
      ∃ t, PSs (cxOf (L2.CX P w) P w K mg base N n (defScope st) f cdv A outer s H E) (defBody st) t ∧ ∀ vs Q, sp vs H Q E → t { nx := fun _ H' => Q .non H', rt := Q } (L2.start N vs) H) : FnOk P w K mg base (L2.CX P w) (k + 1) f fd ps sp := by
  refine F.ok S (fun vs H Q E h => len vs H Q E h) fun cdv A outer s H vs Q E hr h => ?_
  obtain ⟨t, ht, hb⟩ := body cdv A outer s H E hr
  exact ⟨t, ht, hb vs Q h⟩
end
theorem mk__law_rowS {P : Program} {w : World} {K : PySem.W.Frag} {mg : Str → Option Value} {base : Heap} {f : Addr} {fd : FuncData} {sp : Sp} (T : Tx K mg) (F : FunD K "_law_row" "_law_row" (defArgs (topS 89)) (defBody (topS 89)) (defScope (topS 89)) [] [] f fd)
    (len : ∀ vs H Q E, sp vs H Q E → vs.length = 1) (bd : ∀ E vs H Q, sp vs H Q E → t__law_row K E { nx := fun _ H' => Q .non H', rt := Q } (L2.start N__law_row vs) H) : FnOk P w K mg base (L2.CX P w) 1 f fd ["_law_script"] sp :=
  fn_of (k := 0) F sc__law_row len fun cdv A outer s H E hr => ⟨t__law_row K E, (by exact
      (pss_cons (ps_set (i := 1) sc__law_row.nd rfl (Or.inl rfl) (pe_lst pa_nil))
      (pss_cons (ps_for (passes_of rfl) rfl (pi_range1 rfl T.fRange (pa_cons (pe_callB k_len (by rfl) T.fLen b_len (pa_cons (pv 0) pa_nil)) pa_nil)) (pg_name (i := 2) sc__law_row.nd rfl (Or.inl rfl)) (pss_cons (ps_set (i := 3) sc__law_row.nd rfl (Or.inl rfl) (pe_callB k_abs (by rfl) T.fAbs b_abs (pa_cons (pe_callTy k_int (by rfl) T.fInt b_int (pa_cons (pe_ix ix_seq (pv 0) (pv 2) (fun _ _ => rfl)) pa_nil)) pa_nil)))
      (pss_one (ps_if (pt_cmpR op_ge (pv 3) (pe_op op_pow pe_int pe_int) (nomark _)) (pss_one (ps_for (passes_of rfl) rfl (pi_range1 rfl T.fRange (pa_cons pe_int pa_nil)) (pg_name (i := 4) sc__law_row.nd rfl (Or.inl rfl)) (pss_one (ps_if (pt_cmpR op_gt (pv 3) pe_int (nomark _)) (pss_cons (ps_expr (pe_bm PySem.F.plainAttrs_list PySem.F.slot_list_append PySem.F.type_list_append mt_append (pv 1) (pa_cons (pe_op op_mod (pe_callTy k_int (by rfl) T.fInt b_int (pa_cons (pv 3) pa_nil)) pe_int) pa_nil)))
      (pss_one (ps_set (i := 3) sc__law_row.nd rfl (Or.inl rfl) (pe_op op_fdiv (pv 3) pe_int)))) pss_nil)))) (pss_cons (ps_set (i := 5) sc__law_row.nd rfl (Or.inl rfl) (pe_op op_mod (pe_callTy k_int (by rfl) T.fInt b_int (pa_cons (pe_op op_add (pe_op op_add (pe_op op_mul (pv 3) pe_int) (pe_op op_mul (pv 2) pe_int)) pe_int) pa_nil)) pe_int))
      (pss_one (ps_for (passes_of rfl) rfl (pi_range1 rfl T.fRange (pa_cons pe_int pa_nil)) (pg_name (i := 4) sc__law_row.nd rfl (Or.inl rfl)) (pss_cons (ps_set (i := 5) sc__law_row.nd rfl (Or.inl rfl) (pe_op op_mod (pe_callTy k_int (by rfl) T.fInt b_int (pa_cons (pe_op op_add (pe_op op_add (pe_op op_mul (pv 5) pe_int) (pe_op op_mul pe_int (pv 4))) pe_int) pa_nil)) pe_int))
      (pss_one (ps_expr (pe_bm PySem.F.plainAttrs_list PySem.F.slot_list_append PySem.F.type_list_append mt_append (pv 1) (pa_cons (pe_op op_mod (pe_callTy k_int (by rfl) T.fInt b_int (pa_cons (pe_op op_fdiv (pv 5) pe_int) pa_nil)) pe_int) pa_nil))))))))))))
      (pss_one (ps_ret (pv 1)))))), fun vs Q h => bd E vs H Q h⟩
def t_lawU (K : PySem.W.Frag) (E : XK) (R__law_setup R__law_at R__law_person R__law_session R__law_pairs R__law_noise R_make_showing R_key_of R_explain_showing R_mark_of R__law_replayed R__law_varied : Con) : TS :=
        (tSeq (tAsg (tCallS (spD K R__law_setup) (WE W0) (tCons (tVar 1) tNil)) (gName 2))
    (tSeq (tAsg (tOp (rIx K) (tVar 2) (tC (.int 0))) (gName 3))
    (tSeq (tAsg (tLst (tCons (tOp aAdd (tC (.int 1)) (tOp aMod (tCB cInt (tCons (tCallS (spD K R__law_at) (WE W0) (tCons (tVar 1) (tCons (tC (.int 2)) tNil))) tNil)) (tOp aSub (tVar 3) (tC (.int 1))))) (tCons (tOp aAdd (tC (.int 1)) (tOp aMod (tCB cInt (tCons (tCallS (spD K R__law_at) (WE W0) (tCons (tVar 1) (tCons (tC (.int 3)) tNil))) tNil)) (tOp aSub (tVar 3) (tC (.int 1))))) tNil))) (gName 4))
    (tSeq (tAsg (tCallS (spD K R__law_person) (WE W0) (tCons (tVar 2) (tCons (tVar 1) (tCons (tC (.int 4)) tNil)))) (gName 5))
    (tSeq (tAsg (tCallS (spD K R__law_session) (WE W0) (tCons (tVar 2) (tCons (tOp (rIx K) (tVar 4) (tC (.int 0))) (tCons (tVar 5) (tCons (tVar 1) (tCons (tC (.int 7)) tNil)))))) (gTup K 3 (gCons (gName 13) (gCons (gName 14) (gCons (gName 15) gNil)))))
    (tSeq (tAsg (tSl (rSlL K) (tCallS (spD K R__law_pairs) (WE W0) (tCons (tVar 1) (tCons (tC (.int 15)) (tCons (tVar 5) tNil)))) tNoPart (tPart (tOp (rIx K) (tLst (tCons (tC (.int 12)) (tCons (tC (.int 25)) tNil))) (tCB cInt (tCons (tOp rEq (tOp aMod (tCB cInt (tCons (tCallS (spD K R__law_at) (WE W0) (tCons (tVar 1) (tCons (tC (.int 29)) tNil))) tNil)) (tC (.int 8))) (tC (.int 0))) tNil))))) (gName 6))
    (tSeq (tIfS (tTest (tOp (rNotInD K) (tSl (rSlA K) (tVar 5) (tPart (tC (.int 1))) tNoPart) (tVar 6))) (tAsg (tLst (tCons (tSl (rSlA K) (tVar 5) (tPart (tC (.int 1))) tNoPart) tNil)) (gName 6)) tNext)
    (tSeq (tAsg (tTup (tCons (tOp (rIx K) (tLst (tCons (tC (.str "a")) (tCons (tC (.str "gate")) (tCons (tC (.str "zz")) tNil)))) (tOp aMod (tCB cInt (tCons (tCallS (spD K R__law_at) (WE W0) (tCons (tVar 1) (tCons (tC (.int 20)) tNil))) tNil)) (tC (.int 3)))) (tCons (tCB cInt (tCons (tCallS (spD K R__law_at) (WE W0) (tCons (tVar 1) (tCons (tC (.int 21)) tNil))) tNil)) tNil))) (gName 7))
    (tSeq (tAsg (tCallS (spD K R__law_noise) (WE W0) (tCons (tVar 3) (tCons (tVar 6) (tCons (tSl (rSlA K) (tVar 5) (tPart (tC (.int 1))) tNoPart) (tCons (tVar 1) (tCons (tC (.int 30)) tNil)))))) (gName 8))
    (tSeq (tAsg (tCallS (spD K R_make_showing) (WE W0) (tCons (tVar 2) (tCons (tVar 5) (tCons (tVar 13) (tCons (tVar 14) (tCons (tVar 7) (tCons (tVar 6) (tCons (tVar 8) tNil)))))))) (gName 9))
    (tSeq (tAsg (tCallS (spD K R_key_of) (WE W0) (tCons (tVar 2) (tCons (tOp (rIx K) (tVar 4) (tC (.int 0))) tNil))) (gName 10))
    (tSeq (tIfS (tTest (tOp (rNeD K) (tCallS (spD K R_explain_showing) (WE W0) (tCons (tVar 2) (tCons (tVar 10) (tCons (tVar 15) (tCons (tVar 7) (tCons (tVar 6) (tCons (tVar 9) tNil))))))) (tTup (tCons (tVar 14) (tCons (tVar 8) tNil))))) (tRet (tC (.bl false))) tNext)
    (tSeq (tFor (iSeq K (tLst (tCons (tTup (tCons (tOp aAdd (tOp (rIx K) (tVar 15) (tC (.int 2))) (tC (.int 1))) (tCons (tOp (rIx K) (tVar 15) (tC (.int 3))) tNil))) (tCons (tTup (tCons (tOp (rIx K) (tVar 15) (tC (.int 2))) (tCons (tOp aAdd (tOp (rIx K) (tVar 15) (tC (.int 3))) (tC (.int 1))) tNil))) (tCons (tTup (tCons (tOp aSub (tOp (rIx K) (tVar 15) (tC (.int 2))) (tC (.int 1))) (tCons (tOp (rIx K) (tVar 15) (tC (.int 3))) tNil))) (tCons (tTup (tCons (tOp (rIx K) (tVar 15) (tC (.int 2))) (tCons (tOp aSub (tOp (rIx K) (tVar 15) (tC (.int 3))) (tC (.int 1))) tNil))) tNil)))))) (gName 11) (tSeq (tAsg (tOp (rCatA K) (tSl (rSlA K) (tVar 15) tNoPart (tPart (tC (.int 2)))) (tTup (tCons (tOp aMod (tCB cInt (tCons (tOp (rIx K) (tVar 11) (tC (.int 0))) tNil)) (tVar 3)) (tCons (tOp aMod (tCB cInt (tCons (tOp (rIx K) (tVar 11) (tC (.int 1))) tNil)) (tVar 3)) tNil)))) (gName 16))
    (tIfS (tTest (tOp rNotN (tCallS (spD K R_explain_showing) (WE W0) (tCons (tVar 2) (tCons (tVar 10) (tCons (tVar 16) (tCons (tVar 7) (tCons (tVar 6) (tCons (tVar 9) tNil))))))) (tC .non))) (tRet (tC (.bl false))) tNext)))
    (tSeq (tFor (iRng1 (tCons (tOp aAdd (tC (.int 1)) (tOp aMod (tCB cInt (tCons (tCallS (spD K R__law_at) (WE W0) (tCons (tVar 1) (tCons (tC (.int 22)) tNil))) tNil)) (tC (.int 4)))) tNil)) (gName 12) (tSeq (tAsg (tCallS (spD K R__law_person) (WE W0) (tCons (tVar 2) (tCons (tVar 1) (tCons (tOp aAdd (tC (.int 80)) (tOp aMul (tC (.int 12)) (tVar 12))) tNil)))) (gName 17))
    (tSeq (tIfS (tTest (tOp rEq (tOp aMod (tCB cInt (tCons (tCallS (spD K R__law_at) (WE W0) (tCons (tVar 1) (tCons (tOp aAdd (tC (.int 83)) (tOp aMul (tC (.int 12)) (tVar 12))) tNil))) tNil)) (tC (.int 2))) (tC (.int 0)))) (tAsg (tTup (tCons (tOp (rIx K) (tVar 17) (tC (.int 0))) (tCons (tOp (rIx K) (tVar 5) (tC (.int 1))) (tCons (tOp (rIx K) (tVar 5) (tC (.int 2))) tNil)))) (gName 17)) tNext)
    (tSeq (tTry K (.ref (He.ga K "NotAllowed")) (fun W => (tDrop (tCallS (spD K R_mark_of) (WE W) (tCons (tVar 2) (tCons (tVar 17) tNil))))) (fun _ _ _ => (tAsg (tVar 5) (gName 17))))
    (tSeq (tAsg (tOp (rIx K) (tVar 4) (tOp aDiv (tOp aMod (tCB cInt (tCons (tCallS (spD K R__law_at) (WE W0) (tCons (tVar 1) (tCons (tOp aAdd (tC (.int 23)) (tVar 12)) tNil))) tNil)) (tC (.int 3))) (tC (.int 2)))) (gName 18))
    (tSeq (tAsg (tCallS (spD K R__law_session) (WE W0) (tCons (tVar 2) (tCons (tVar 18) (tCons (tVar 17) (tCons (tVar 1) (tCons (tOp aAdd (tC (.int 84)) (tOp aMul (tC (.int 12)) (tVar 12))) tNil)))))) (gTup K 3 (gCons (gName 20) (gCons (gName 21) (gCons (gName 22) gNil)))))
    (tSeq (tAsg (tCallS (spD K R_explain_showing) (WE W0) (tCons (tVar 2) (tCons (tVar 10) (tCons (tVar 22) (tCons (tVar 7) (tCons (tVar 6) (tCons (tVar 9) tNil))))))) (gName 19))
    (tIfS (tOr (tTest (tOp (rNotInD K) (tSl (rSlA K) (tVar 17) (tPart (tC (.int 1))) tNoPart) (tVar 6))) (tTest (tOp rNe (tVar 18) (tOp (rIx K) (tVar 4) (tC (.int 0)))))) (tIfS (tTest (tOp rNotN (tVar 19) (tC .non))) (tRet (tC (.bl false))) tNext) (tSeq (tIfS (tOr (tNot (tB (tCB RZ.rIsTy (tCons (tVar 19) (tCons (tC (.ty "tuple")) tNil))))) (tTest (tOp rNe (tCB (cLen K) (tCons (tVar 19) tNil)) (tC (.int 2))))) (tRet (tC (.bl false))) tNext)
    (tSeq (tIfS (tTest (tOp (rNeD K) (tCallS (spD K R__law_replayed) (WE W0) (tCons (tVar 2) (tCons (tVar 10) (tCons (tVar 22) (tCons (tVar 7) (tCons (tVar 6) (tCons (tOp (rIx K) (tVar 19) (tC (.int 0))) (tCons (tOp (rIx K) (tVar 19) (tC (.int 1))) tNil)))))))) (tVar 9))) (tRet (tC (.bl false))) tNext)
    (tSeq (tAsg (tBM K "list" (rIndexD K) (tVar 6) (tCons (tSl (rSlA K) (tVar 17) (tPart (tC (.int 1))) tNoPart) tNil)) (gName 23))
    (tSeq (tAsg (tCallS (spD K R__law_varied) (WE W0) (tCons (tOp (rIx K) (tVar 19) (tC (.int 0))) (tCons (tOp (rIx K) (tVar 19) (tC (.int 1))) (tCons (tCallS (spD K R__law_at) (WE W0) (tCons (tVar 1) (tCons (tOp aAdd (tC (.int 27)) (tVar 12)) tNil))) (tCons (tVar 3) (tCons (tVar 23) tNil)))))) (gName 24))
    (tIfS (tTest (tOp (rEqD K) (tCallS (spD K R__law_replayed) (WE W0) (tCons (tVar 2) (tCons (tVar 10) (tCons (tVar 22) (tCons (tVar 7) (tCons (tVar 6) (tCons (tOp (rIx K) (tVar 24) (tC (.int 0))) (tCons (tOp (rIx K) (tVar 24) (tC (.int 1))) tNil)))))))) (tVar 9))) (tRet (tC (.bl false))) tNext)))))))))))))
    (tRet (tC (.bl true)))))))))))))))))
theorem mk_lawS {P : Program} {w : World} {K : PySem.W.Frag} {mg : Str → Option Value} {base : Heap} {f : Addr} {fd : FuncData} {sp spR : Sp} {R__law_setup R__law_at R__law_person R__law_session R__law_pairs R__law_noise R_make_showing R_key_of R_explain_showing R_mark_of R__law_replayed R__law_varied : Con} (T : Tx K mg) (F : FunD K "law" "law" (defArgs (topS 98)) (defBody (topS 98)) (defScope (topS 98)) [] [] f fd) (c__law_row : CalS P w K mg base "_law_row" 1 spR) (c__law_setup : Cal P w K mg base "_law_setup" 6 R__law_setup) (c__law_at : Cal P w K mg base "_law_at" 1 R__law_at) (c__law_person : Cal P w K mg base "_law_person" 8 R__law_person) (c__law_session : Cal P w K mg base "_law_session" 10 R__law_session) (c__law_pairs : Cal P w K mg base "_law_pairs" 2 R__law_pairs) (c__law_noise : Cal P w K mg base "_law_noise" 2 R__law_noise) (c_make_showing : Cal P w K mg base "make_showing" 9 R_make_showing) (c_key_of : Cal P w K mg base "key_of" 5 R_key_of) (c_explain_showing : Cal P w K mg base "explain_showing" 11 R_explain_showing) (c_mark_of : Cal P w K mg base "mark_of" 7 R_mark_of) (c__law_replayed : Cal P w K mg base "_law_replayed" 10 R__law_replayed) (c__law_varied : Cal P w K mg base "_law_varied" 1 R__law_varied)
    (len : ∀ vs H Q E, sp vs H Q E → vs.length = 1) (bd : ∀ E vs H Q, sp vs H Q E → (tSeq (tAsg (tCallS spR (WE W0) (tCons (tVar 0) tNil)) (gName 1)) (t_lawU K E R__law_setup R__law_at R__law_person R__law_session R__law_pairs R__law_noise R_make_showing R_key_of R_explain_showing R_mark_of R__law_replayed R__law_varied)) { nx := fun _ H' => Q .non H', rt := Q } (L2.start N_law vs) H) : FnOk P w K mg base (L2.CX P w) 12 f fd ["_law_script"] sp :=
  fn_of (k := 11) F sc_law len fun cdv A outer s H E hr => ⟨(tSeq (tAsg (tCallS spR (WE W0) (tCons (tVar 0) tNil)) (gName 1)) (t_lawU K E R__law_setup R__law_at R__law_person R__law_session R__law_pairs R__law_noise R_make_showing R_key_of R_explain_showing R_mark_of R__law_replayed R__law_varied)), (by exact
      (pss_cons (ps_set (i := 1) sc_law.nd rfl (Or.inl rfl) (pe_callR c__law_row hr (by decide) (pa_cons (pv 0) pa_nil)))
      (pss_cons (ps_set (i := 2) sc_law.nd rfl (Or.inl rfl) (pe_callD c__law_setup hr (by decide) (pa_cons (pv 1) pa_nil)))
      (pss_cons (ps_set (i := 3) sc_law.nd rfl (Or.inl rfl) (pe_ix ix_seq (pv 2) pe_int (fun _ _ => rfl)))
      (pss_cons (ps_set (i := 4) sc_law.nd rfl (Or.inl rfl) (pe_lst (pa_cons (pe_op op_add pe_int (pe_op op_mod (pe_callTy k_int (by rfl) T.fInt b_int (pa_cons (pe_callD c__law_at hr (by decide) (pa_cons (pv 1) (pa_cons pe_int pa_nil))) pa_nil)) (pe_op op_sub (pv 3) pe_int))) (pa_cons (pe_op op_add pe_int (pe_op op_mod (pe_callTy k_int (by rfl) T.fInt b_int (pa_cons (pe_callD c__law_at hr (by decide) (pa_cons (pv 1) (pa_cons pe_int pa_nil))) pa_nil)) (pe_op op_sub (pv 3) pe_int))) pa_nil))))
      (pss_cons (ps_set (i := 5) sc_law.nd rfl (Or.inl rfl) (pe_callD c__law_person hr (by decide) (pa_cons (pv 2) (pa_cons (pv 1) (pa_cons pe_int pa_nil)))))
      (pss_cons (ps_asg (pe_callD c__law_session hr (by decide) (pa_cons (pv 2) (pa_cons (pe_ix ix_seq (pv 4) pe_int (fun _ _ => rfl)) (pa_cons (pv 5) (pa_cons (pv 1) (pa_cons pe_int pa_nil)))))) (pg_tup rfl (pgs_cons (pg_name (i := 13) sc_law.nd rfl (Or.inl rfl)) (pgs_cons (pg_name (i := 14) sc_law.nd rfl (Or.inl rfl)) (pgs_cons (pg_name (i := 15) sc_law.nd rfl (Or.inl rfl)) pgs_nil)))))
      (pss_cons (ps_set (i := 6) sc_law.nd rfl (Or.inl rfl) (pe_slice sl_list (pe_callD c__law_pairs hr (by decide) (pa_cons (pv 1) (pa_cons pe_int (pa_cons (pv 5) pa_nil)))) po_none (po_some (pe_ix ix_seq (pe_lst (pa_cons pe_int (pa_cons pe_int pa_nil))) (pe_callTy k_int (by rfl) T.fInt b_int (pa_cons (pe_cmpR op_eq (pe_op op_mod (pe_callTy k_int (by rfl) T.fInt b_int (pa_cons (pe_callD c__law_at hr (by decide) (pa_cons (pv 1) (pa_cons pe_int pa_nil))) pa_nil)) pe_int) pe_int (nomark _)) pa_nil)) (fun _ _ => rfl)))))
      (pss_cons (ps_if (pt_cmpR (op_notInD (room65 hr)) (pe_slice sl_tupA (pv 5) (po_some pe_int) po_none) (pv 6) (by rfl)) (pss_one (ps_set (i := 6) sc_law.nd rfl (Or.inl rfl) (pe_lst (pa_cons (pe_slice sl_tupA (pv 5) (po_some pe_int) po_none) pa_nil)))) pss_nil)
      (pss_cons (ps_set (i := 7) sc_law.nd rfl (Or.inl rfl) (pe_tup (pa_cons (pe_ix ix_seq (pe_lst (pa_cons pe_str (pa_cons pe_str (pa_cons pe_str pa_nil)))) (pe_op op_mod (pe_callTy k_int (by rfl) T.fInt b_int (pa_cons (pe_callD c__law_at hr (by decide) (pa_cons (pv 1) (pa_cons pe_int pa_nil))) pa_nil)) pe_int) (fun _ _ => rfl)) (pa_cons (pe_callTy k_int (by rfl) T.fInt b_int (pa_cons (pe_callD c__law_at hr (by decide) (pa_cons (pv 1) (pa_cons pe_int pa_nil))) pa_nil)) pa_nil))))
      (pss_cons (ps_set (i := 8) sc_law.nd rfl (Or.inl rfl) (pe_callD c__law_noise hr (by decide) (pa_cons (pv 3) (pa_cons (pv 6) (pa_cons (pe_slice sl_tupA (pv 5) (po_some pe_int) po_none) (pa_cons (pv 1) (pa_cons pe_int pa_nil)))))))
      (pss_cons (ps_set (i := 9) sc_law.nd rfl (Or.inl rfl) (pe_callD c_make_showing hr (by decide) (pa_cons (pv 2) (pa_cons (pv 5) (pa_cons (pv 13) (pa_cons (pv 14) (pa_cons (pv 7) (pa_cons (pv 6) (pa_cons (pv 8) pa_nil)))))))))
      (pss_cons (ps_set (i := 10) sc_law.nd rfl (Or.inl rfl) (pe_callD c_key_of hr (by decide) (pa_cons (pv 2) (pa_cons (pe_ix ix_seq (pv 4) pe_int (fun _ _ => rfl)) pa_nil))))
      (pss_cons (ps_if (pt_cmpR (op_neD hr.units) (pe_callD c_explain_showing hr (by decide) (pa_cons (pv 2) (pa_cons (pv 10) (pa_cons (pv 15) (pa_cons (pv 7) (pa_cons (pv 6) (pa_cons (pv 9) pa_nil))))))) (pe_tup (pa_cons (pv 14) (pa_cons (pv 8) pa_nil))) (nomark _)) (pss_one (ps_ret pe_bl)) pss_nil)
      (pss_cons (ps_for (passes_of rfl) rfl (pi_seq (pe_lst (pa_cons (pe_tup (pa_cons (pe_op op_add (pe_ix ix_seq (pv 15) pe_int (fun _ _ => rfl)) pe_int) (pa_cons (pe_ix ix_seq (pv 15) pe_int (fun _ _ => rfl)) pa_nil))) (pa_cons (pe_tup (pa_cons (pe_ix ix_seq (pv 15) pe_int (fun _ _ => rfl)) (pa_cons (pe_op op_add (pe_ix ix_seq (pv 15) pe_int (fun _ _ => rfl)) pe_int) pa_nil))) (pa_cons (pe_tup (pa_cons (pe_op op_sub (pe_ix ix_seq (pv 15) pe_int (fun _ _ => rfl)) pe_int) (pa_cons (pe_ix ix_seq (pv 15) pe_int (fun _ _ => rfl)) pa_nil))) (pa_cons (pe_tup (pa_cons (pe_ix ix_seq (pv 15) pe_int (fun _ _ => rfl)) (pa_cons (pe_op op_sub (pe_ix ix_seq (pv 15) pe_int (fun _ _ => rfl)) pe_int) pa_nil))) pa_nil)))))) (pg_name (i := 11) sc_law.nd rfl (Or.inl rfl)) (pss_cons (ps_set (i := 16) sc_law.nd rfl (Or.inl rfl) (pe_op op_catA (pe_slice sl_tupA (pv 15) po_none (po_some pe_int)) (pe_tup (pa_cons (pe_op op_mod (pe_callTy k_int (by rfl) T.fInt b_int (pa_cons (pe_ix ix_seq (pv 11) pe_int (fun _ _ => rfl)) pa_nil)) (pv 3)) (pa_cons (pe_op op_mod (pe_callTy k_int (by rfl) T.fInt b_int (pa_cons (pe_ix ix_seq (pv 11) pe_int (fun _ _ => rfl)) pa_nil)) (pv 3)) pa_nil)))))
      (pss_one (ps_if (pt_cmpR o_notN (pe_callD c_explain_showing hr (by decide) (pa_cons (pv 2) (pa_cons (pv 10) (pa_cons (pv 16) (pa_cons (pv 7) (pa_cons (pv 6) (pa_cons (pv 9) pa_nil))))))) pe_non (nomark _)) (pss_one (ps_ret pe_bl)) pss_nil))))
      (pss_cons (ps_for (passes_of rfl) rfl (pi_range1 rfl T.fRange (pa_cons (pe_op op_add pe_int (pe_op op_mod (pe_callTy k_int (by rfl) T.fInt b_int (pa_cons (pe_callD c__law_at hr (by decide) (pa_cons (pv 1) (pa_cons pe_int pa_nil))) pa_nil)) pe_int)) pa_nil)) (pg_name (i := 12) sc_law.nd rfl (Or.inl rfl)) (pss_cons (ps_set (i := 17) sc_law.nd rfl (Or.inl rfl) (pe_callD c__law_person hr (by decide) (pa_cons (pv 2) (pa_cons (pv 1) (pa_cons (pe_op op_add pe_int (pe_op op_mul pe_int (pv 12))) pa_nil)))))
      (pss_cons (ps_if (pt_cmpR op_eq (pe_op op_mod (pe_callTy k_int (by rfl) T.fInt b_int (pa_cons (pe_callD c__law_at hr (by decide) (pa_cons (pv 1) (pa_cons (pe_op op_add pe_int (pe_op op_mul pe_int (pv 12))) pa_nil))) pa_nil)) pe_int) pe_int (nomark _)) (pss_one (ps_set (i := 17) sc_law.nd rfl (Or.inl rfl) (pe_tup (pa_cons (pe_ix ix_seq (pv 17) pe_int (fun _ _ => rfl)) (pa_cons (pe_ix ix_seq (pv 5) pe_int (fun _ _ => rfl)) (pa_cons (pe_ix ix_seq (pv 5) pe_int (fun _ _ => rfl)) pa_nil)))))) pss_nil)
      (pss_cons (ps_try_only (tb := fun W => (tDrop (tCallS (spD K R_mark_of) (WE W) (tCons (tVar 2) (tCons (tVar 17) tNil))))) (ts := fun _ _ _ => (tAsg (tVar 5) (gName 17))) rfl rfl ⟨rfl, by decide, .inl T.gNA⟩ takes0 (fun W pn xe tk _ => (pss_one (ps_expr (pe_callX tk c_mark_of hr (by decide) (pa_cons (pv 2) (pa_cons (pv 17) pa_nil)))))) (fun _ _ _ _ _ _ _ => (pss_one (ps_set (i := 17) sc_law.nd rfl (Or.inl rfl) (pv 5)))))
      (pss_cons (ps_set (i := 18) sc_law.nd rfl (Or.inl rfl) (pe_ix ix_seq (pv 4) (pe_op op_fdiv (pe_op op_mod (pe_callTy k_int (by rfl) T.fInt b_int (pa_cons (pe_callD c__law_at hr (by decide) (pa_cons (pv 1) (pa_cons (pe_op op_add pe_int (pv 12)) pa_nil))) pa_nil)) pe_int) pe_int) (fun _ _ => rfl)))
      (pss_cons (ps_asg (pe_callD c__law_session hr (by decide) (pa_cons (pv 2) (pa_cons (pv 18) (pa_cons (pv 17) (pa_cons (pv 1) (pa_cons (pe_op op_add pe_int (pe_op op_mul pe_int (pv 12))) pa_nil)))))) (pg_tup rfl (pgs_cons (pg_name (i := 20) sc_law.nd rfl (Or.inl rfl)) (pgs_cons (pg_name (i := 21) sc_law.nd rfl (Or.inl rfl)) (pgs_cons (pg_name (i := 22) sc_law.nd rfl (Or.inl rfl)) pgs_nil)))))
      (pss_cons (ps_set (i := 19) sc_law.nd rfl (Or.inl rfl) (pe_callD c_explain_showing hr (by decide) (pa_cons (pv 2) (pa_cons (pv 10) (pa_cons (pv 22) (pa_cons (pv 7) (pa_cons (pv 6) (pa_cons (pv 9) pa_nil))))))))
      (pss_one (ps_if (PW.pt (pw_or (pt_cmpR (op_notInD (room65 hr)) (pe_slice sl_tupA (pv 17) (po_some pe_int) po_none) (pv 6) (by rfl)) (pw_or1 (pt_cmpR op_ne (pv 18) (pe_ix ix_seq (pv 4) pe_int (fun _ _ => rfl)) (nomark _))))) (pss_one (ps_if (pt_cmpR o_notN (pv 19) pe_non (nomark _)) (pss_one (ps_ret pe_bl)) pss_nil)) (pss_cons (ps_if (PW.pt (pw_or (pt_not (pt_val (pe_callB RZ.call_isTy (by rfl) T.fIsinstance b_isinstance (pa_cons (pv 19) (pa_cons (pe_bltn (v := .ty "tuple") rfl T.fTuple b_tuple rfl) pa_nil))))) (pw_or1 (pt_cmpR op_ne (pe_callB k_len (by rfl) T.fLen b_len (pa_cons (pv 19) pa_nil)) pe_int (nomark _))))) (pss_one (ps_ret pe_bl)) pss_nil)
      (pss_cons (ps_if (pt_cmpR (op_neD hr.units) (pe_callD c__law_replayed hr (by decide) (pa_cons (pv 2) (pa_cons (pv 10) (pa_cons (pv 22) (pa_cons (pv 7) (pa_cons (pv 6) (pa_cons (pe_ix ix_seq (pv 19) pe_int (fun _ _ => rfl)) (pa_cons (pe_ix ix_seq (pv 19) pe_int (fun _ _ => rfl)) pa_nil)))))))) (pv 9) (nomark _)) (pss_one (ps_ret pe_bl)) pss_nil)
      (pss_cons (ps_set (i := 23) sc_law.nd rfl (Or.inl rfl) (pe_bm PySem.F.plainAttrs_list PySem.F.slot_list_index PySem.F.type_list_index (mt_indexD (room65 hr)) (pv 6) (pa_cons (pe_slice sl_tupA (pv 17) (po_some pe_int) po_none) pa_nil)))
      (pss_cons (ps_set (i := 24) sc_law.nd rfl (Or.inl rfl) (pe_callD c__law_varied hr (by decide) (pa_cons (pe_ix ix_seq (pv 19) pe_int (fun _ _ => rfl)) (pa_cons (pe_ix ix_seq (pv 19) pe_int (fun _ _ => rfl)) (pa_cons (pe_callD c__law_at hr (by decide) (pa_cons (pv 1) (pa_cons (pe_op op_add pe_int (pv 12)) pa_nil))) (pa_cons (pv 3) (pa_cons (pv 23) pa_nil)))))))
      (pss_one (ps_if (pt_cmpR (op_eqD hr.units) (pe_callD c__law_replayed hr (by decide) (pa_cons (pv 2) (pa_cons (pv 10) (pa_cons (pv 22) (pa_cons (pv 7) (pa_cons (pv 6) (pa_cons (pe_ix ix_seq (pv 24) pe_int (fun _ _ => rfl)) (pa_cons (pe_ix ix_seq (pv 24) pe_int (fun _ _ => rfl)) pa_nil)))))))) (pv 9) (nomark _)) (pss_one (ps_ret pe_bl)) pss_nil)))))))))))))))
      (pss_one (ps_ret pe_bl)))))))))))))))))), fun vs Q h => bd E vs H Q h⟩
end Ck

/-! Pieces of the law's reading, by name. -/
namespace Ck
open PySem PySem.Spec PyProof.Rows L2
def t_lawCut (K : PySem.W.Frag) : TS :=
    (tIfS (tTest (tOp (rNotInD K) (tSl (rSlA K) (tVar 5) (tPart (tC (.int 1))) tNoPart) (tVar 6))) (tAsg (tLst (tCons (tSl (rSlA K) (tVar 5) (tPart (tC (.int 1))) tNoPart) tNil)) (gName 6)) tNext)
def t_lawPar (K : PySem.W.Frag) (R__law_at : Con) : TS :=
    (tIfS (tTest (tOp rEq (tOp aMod (tCB cInt (tCons (tCallS (spD K R__law_at) (WE W0) (tCons (tVar 1) (tCons (tOp aAdd (tC (.int 83)) (tOp aMul (tC (.int 12)) (tVar 12))) tNil))) tNil)) (tC (.int 2))) (tC (.int 0)))) (tAsg (tTup (tCons (tOp (rIx K) (tVar 17) (tC (.int 0))) (tCons (tOp (rIx K) (tVar 5) (tC (.int 1))) (tCons (tOp (rIx K) (tVar 5) (tC (.int 2))) tNil)))) (gName 17)) tNext)
def t_lawTry (K : PySem.W.Frag) (R_mark_of : Con) : TS :=
    (tTry K (.ref (He.ga K "NotAllowed")) (fun W => (tDrop (tCallS (spD K R_mark_of) (WE W) (tCons (tVar 2) (tCons (tVar 17) tNil))))) (fun _ _ _ => (tAsg (tVar 5) (gName 17))))
def t_lawF (K : PySem.W.Frag) (R_explain_showing : Con) : TS :=
    (tSeq (tAsg (tOp (rCatA K) (tSl (rSlA K) (tVar 15) tNoPart (tPart (tC (.int 2)))) (tTup (tCons (tOp aMod (tCB cInt (tCons (tOp (rIx K) (tVar 11) (tC (.int 0))) tNil)) (tVar 3)) (tCons (tOp aMod (tCB cInt (tCons (tOp (rIx K) (tVar 11) (tC (.int 1))) tNil)) (tVar 3)) tNil)))) (gName 16))
    (tIfS (tTest (tOp rNotN (tCallS (spD K R_explain_showing) (WE W0) (tCons (tVar 2) (tCons (tVar 10) (tCons (tVar 16) (tCons (tVar 7) (tCons (tVar 6) (tCons (tVar 9) tNil))))))) (tC .non))) (tRet (tC (.bl false))) tNext))
def t_lawE (K : PySem.W.Frag) (R__law_at R__law_replayed R__law_varied : Con) : TS :=
    (tIfS (tOr (tTest (tOp (rNotInD K) (tSl (rSlA K) (tVar 17) (tPart (tC (.int 1))) tNoPart) (tVar 6))) (tTest (tOp rNe (tVar 18) (tOp (rIx K) (tVar 4) (tC (.int 0)))))) (tIfS (tTest (tOp rNotN (tVar 19) (tC .non))) (tRet (tC (.bl false))) tNext) (tSeq (tIfS (tOr (tNot (tB (tCB RZ.rIsTy (tCons (tVar 19) (tCons (tC (.ty "tuple")) tNil))))) (tTest (tOp rNe (tCB (cLen K) (tCons (tVar 19) tNil)) (tC (.int 2))))) (tRet (tC (.bl false))) tNext)
    (tSeq (tIfS (tTest (tOp (rNeD K) (tCallS (spD K R__law_replayed) (WE W0) (tCons (tVar 2) (tCons (tVar 10) (tCons (tVar 22) (tCons (tVar 7) (tCons (tVar 6) (tCons (tOp (rIx K) (tVar 19) (tC (.int 0))) (tCons (tOp (rIx K) (tVar 19) (tC (.int 1))) tNil)))))))) (tVar 9))) (tRet (tC (.bl false))) tNext)
    (tSeq (tAsg (tBM K "list" (rIndexD K) (tVar 6) (tCons (tSl (rSlA K) (tVar 17) (tPart (tC (.int 1))) tNoPart) tNil)) (gName 23))
    (tSeq (tAsg (tCallS (spD K R__law_varied) (WE W0) (tCons (tOp (rIx K) (tVar 19) (tC (.int 0))) (tCons (tOp (rIx K) (tVar 19) (tC (.int 1))) (tCons (tCallS (spD K R__law_at) (WE W0) (tCons (tVar 1) (tCons (tOp aAdd (tC (.int 27)) (tVar 12)) tNil))) (tCons (tVar 3) (tCons (tVar 23) tNil)))))) (gName 24))
    (tIfS (tTest (tOp (rEqD K) (tCallS (spD K R__law_replayed) (WE W0) (tCons (tVar 2) (tCons (tVar 10) (tCons (tVar 22) (tCons (tVar 7) (tCons (tVar 6) (tCons (tOp (rIx K) (tVar 24) (tC (.int 0))) (tCons (tOp (rIx K) (tVar 24) (tC (.int 1))) tNil)))))))) (tVar 9))) (tRet (tC (.bl false))) tNext))))))
def t_lawG (K : PySem.W.Frag) (R__law_at R__law_person R__law_session R_explain_showing R_mark_of R__law_replayed R__law_varied : Con) : TS :=
    (tSeq (tAsg (tCallS (spD K R__law_person) (WE W0) (tCons (tVar 2) (tCons (tVar 1) (tCons (tOp aAdd (tC (.int 80)) (tOp aMul (tC (.int 12)) (tVar 12))) tNil)))) (gName 17))
    (tSeq (tIfS (tTest (tOp rEq (tOp aMod (tCB cInt (tCons (tCallS (spD K R__law_at) (WE W0) (tCons (tVar 1) (tCons (tOp aAdd (tC (.int 83)) (tOp aMul (tC (.int 12)) (tVar 12))) tNil))) tNil)) (tC (.int 2))) (tC (.int 0)))) (tAsg (tTup (tCons (tOp (rIx K) (tVar 17) (tC (.int 0))) (tCons (tOp (rIx K) (tVar 5) (tC (.int 1))) (tCons (tOp (rIx K) (tVar 5) (tC (.int 2))) tNil)))) (gName 17)) tNext)
    (tSeq (tTry K (.ref (He.ga K "NotAllowed")) (fun W => (tDrop (tCallS (spD K R_mark_of) (WE W) (tCons (tVar 2) (tCons (tVar 17) tNil))))) (fun _ _ _ => (tAsg (tVar 5) (gName 17))))
    (tSeq (tAsg (tOp (rIx K) (tVar 4) (tOp aDiv (tOp aMod (tCB cInt (tCons (tCallS (spD K R__law_at) (WE W0) (tCons (tVar 1) (tCons (tOp aAdd (tC (.int 23)) (tVar 12)) tNil))) tNil)) (tC (.int 3))) (tC (.int 2)))) (gName 18))
    (tSeq (tAsg (tCallS (spD K R__law_session) (WE W0) (tCons (tVar 2) (tCons (tVar 18) (tCons (tVar 17) (tCons (tVar 1) (tCons (tOp aAdd (tC (.int 84)) (tOp aMul (tC (.int 12)) (tVar 12))) tNil)))))) (gTup K 3 (gCons (gName 20) (gCons (gName 21) (gCons (gName 22) gNil)))))
    (tSeq (tAsg (tCallS (spD K R_explain_showing) (WE W0) (tCons (tVar 2) (tCons (tVar 10) (tCons (tVar 22) (tCons (tVar 7) (tCons (tVar 6) (tCons (tVar 9) tNil))))))) (gName 19))
    (tIfS (tOr (tTest (tOp (rNotInD K) (tSl (rSlA K) (tVar 17) (tPart (tC (.int 1))) tNoPart) (tVar 6))) (tTest (tOp rNe (tVar 18) (tOp (rIx K) (tVar 4) (tC (.int 0)))))) (tIfS (tTest (tOp rNotN (tVar 19) (tC .non))) (tRet (tC (.bl false))) tNext) (tSeq (tIfS (tOr (tNot (tB (tCB RZ.rIsTy (tCons (tVar 19) (tCons (tC (.ty "tuple")) tNil))))) (tTest (tOp rNe (tCB (cLen K) (tCons (tVar 19) tNil)) (tC (.int 2))))) (tRet (tC (.bl false))) tNext)
    (tSeq (tIfS (tTest (tOp (rNeD K) (tCallS (spD K R__law_replayed) (WE W0) (tCons (tVar 2) (tCons (tVar 10) (tCons (tVar 22) (tCons (tVar 7) (tCons (tVar 6) (tCons (tOp (rIx K) (tVar 19) (tC (.int 0))) (tCons (tOp (rIx K) (tVar 19) (tC (.int 1))) tNil)))))))) (tVar 9))) (tRet (tC (.bl false))) tNext)
    (tSeq (tAsg (tBM K "list" (rIndexD K) (tVar 6) (tCons (tSl (rSlA K) (tVar 17) (tPart (tC (.int 1))) tNoPart) tNil)) (gName 23))
    (tSeq (tAsg (tCallS (spD K R__law_varied) (WE W0) (tCons (tOp (rIx K) (tVar 19) (tC (.int 0))) (tCons (tOp (rIx K) (tVar 19) (tC (.int 1))) (tCons (tCallS (spD K R__law_at) (WE W0) (tCons (tVar 1) (tCons (tOp aAdd (tC (.int 27)) (tVar 12)) tNil))) (tCons (tVar 3) (tCons (tVar 23) tNil)))))) (gName 24))
    (tIfS (tTest (tOp (rEqD K) (tCallS (spD K R__law_replayed) (WE W0) (tCons (tVar 2) (tCons (tVar 10) (tCons (tVar 22) (tCons (tVar 7) (tCons (tVar 6) (tCons (tOp (rIx K) (tVar 24) (tC (.int 0))) (tCons (tOp (rIx K) (tVar 24) (tC (.int 1))) tNil)))))))) (tVar 9))) (tRet (tC (.bl false))) tNext))))))))))))
def t_lawT (K : PySem.W.Frag) (R__law_at R__law_person R__law_session R_explain_showing R_mark_of R__law_replayed R__law_varied : Con) : TS :=
    (tSeq (tIfS (tTest (tOp (rNeD K) (tCallS (spD K R_explain_showing) (WE W0) (tCons (tVar 2) (tCons (tVar 10) (tCons (tVar 15) (tCons (tVar 7) (tCons (tVar 6) (tCons (tVar 9) tNil))))))) (tTup (tCons (tVar 14) (tCons (tVar 8) tNil))))) (tRet (tC (.bl false))) tNext)
    (tSeq (tFor (iSeq K (tLst (tCons (tTup (tCons (tOp aAdd (tOp (rIx K) (tVar 15) (tC (.int 2))) (tC (.int 1))) (tCons (tOp (rIx K) (tVar 15) (tC (.int 3))) tNil))) (tCons (tTup (tCons (tOp (rIx K) (tVar 15) (tC (.int 2))) (tCons (tOp aAdd (tOp (rIx K) (tVar 15) (tC (.int 3))) (tC (.int 1))) tNil))) (tCons (tTup (tCons (tOp aSub (tOp (rIx K) (tVar 15) (tC (.int 2))) (tC (.int 1))) (tCons (tOp (rIx K) (tVar 15) (tC (.int 3))) tNil))) (tCons (tTup (tCons (tOp (rIx K) (tVar 15) (tC (.int 2))) (tCons (tOp aSub (tOp (rIx K) (tVar 15) (tC (.int 3))) (tC (.int 1))) tNil))) tNil)))))) (gName 11) (tSeq (tAsg (tOp (rCatA K) (tSl (rSlA K) (tVar 15) tNoPart (tPart (tC (.int 2)))) (tTup (tCons (tOp aMod (tCB cInt (tCons (tOp (rIx K) (tVar 11) (tC (.int 0))) tNil)) (tVar 3)) (tCons (tOp aMod (tCB cInt (tCons (tOp (rIx K) (tVar 11) (tC (.int 1))) tNil)) (tVar 3)) tNil)))) (gName 16))
    (tIfS (tTest (tOp rNotN (tCallS (spD K R_explain_showing) (WE W0) (tCons (tVar 2) (tCons (tVar 10) (tCons (tVar 16) (tCons (tVar 7) (tCons (tVar 6) (tCons (tVar 9) tNil))))))) (tC .non))) (tRet (tC (.bl false))) tNext)))
    (tSeq (tFor (iRng1 (tCons (tOp aAdd (tC (.int 1)) (tOp aMod (tCB cInt (tCons (tCallS (spD K R__law_at) (WE W0) (tCons (tVar 1) (tCons (tC (.int 22)) tNil))) tNil)) (tC (.int 4)))) tNil)) (gName 12) (tSeq (tAsg (tCallS (spD K R__law_person) (WE W0) (tCons (tVar 2) (tCons (tVar 1) (tCons (tOp aAdd (tC (.int 80)) (tOp aMul (tC (.int 12)) (tVar 12))) tNil)))) (gName 17))
    (tSeq (tIfS (tTest (tOp rEq (tOp aMod (tCB cInt (tCons (tCallS (spD K R__law_at) (WE W0) (tCons (tVar 1) (tCons (tOp aAdd (tC (.int 83)) (tOp aMul (tC (.int 12)) (tVar 12))) tNil))) tNil)) (tC (.int 2))) (tC (.int 0)))) (tAsg (tTup (tCons (tOp (rIx K) (tVar 17) (tC (.int 0))) (tCons (tOp (rIx K) (tVar 5) (tC (.int 1))) (tCons (tOp (rIx K) (tVar 5) (tC (.int 2))) tNil)))) (gName 17)) tNext)
    (tSeq (tTry K (.ref (He.ga K "NotAllowed")) (fun W => (tDrop (tCallS (spD K R_mark_of) (WE W) (tCons (tVar 2) (tCons (tVar 17) tNil))))) (fun _ _ _ => (tAsg (tVar 5) (gName 17))))
    (tSeq (tAsg (tOp (rIx K) (tVar 4) (tOp aDiv (tOp aMod (tCB cInt (tCons (tCallS (spD K R__law_at) (WE W0) (tCons (tVar 1) (tCons (tOp aAdd (tC (.int 23)) (tVar 12)) tNil))) tNil)) (tC (.int 3))) (tC (.int 2)))) (gName 18))
    (tSeq (tAsg (tCallS (spD K R__law_session) (WE W0) (tCons (tVar 2) (tCons (tVar 18) (tCons (tVar 17) (tCons (tVar 1) (tCons (tOp aAdd (tC (.int 84)) (tOp aMul (tC (.int 12)) (tVar 12))) tNil)))))) (gTup K 3 (gCons (gName 20) (gCons (gName 21) (gCons (gName 22) gNil)))))
    (tSeq (tAsg (tCallS (spD K R_explain_showing) (WE W0) (tCons (tVar 2) (tCons (tVar 10) (tCons (tVar 22) (tCons (tVar 7) (tCons (tVar 6) (tCons (tVar 9) tNil))))))) (gName 19))
    (tIfS (tOr (tTest (tOp (rNotInD K) (tSl (rSlA K) (tVar 17) (tPart (tC (.int 1))) tNoPart) (tVar 6))) (tTest (tOp rNe (tVar 18) (tOp (rIx K) (tVar 4) (tC (.int 0)))))) (tIfS (tTest (tOp rNotN (tVar 19) (tC .non))) (tRet (tC (.bl false))) tNext) (tSeq (tIfS (tOr (tNot (tB (tCB RZ.rIsTy (tCons (tVar 19) (tCons (tC (.ty "tuple")) tNil))))) (tTest (tOp rNe (tCB (cLen K) (tCons (tVar 19) tNil)) (tC (.int 2))))) (tRet (tC (.bl false))) tNext)
    (tSeq (tIfS (tTest (tOp (rNeD K) (tCallS (spD K R__law_replayed) (WE W0) (tCons (tVar 2) (tCons (tVar 10) (tCons (tVar 22) (tCons (tVar 7) (tCons (tVar 6) (tCons (tOp (rIx K) (tVar 19) (tC (.int 0))) (tCons (tOp (rIx K) (tVar 19) (tC (.int 1))) tNil)))))))) (tVar 9))) (tRet (tC (.bl false))) tNext)
    (tSeq (tAsg (tBM K "list" (rIndexD K) (tVar 6) (tCons (tSl (rSlA K) (tVar 17) (tPart (tC (.int 1))) tNoPart) tNil)) (gName 23))
    (tSeq (tAsg (tCallS (spD K R__law_varied) (WE W0) (tCons (tOp (rIx K) (tVar 19) (tC (.int 0))) (tCons (tOp (rIx K) (tVar 19) (tC (.int 1))) (tCons (tCallS (spD K R__law_at) (WE W0) (tCons (tVar 1) (tCons (tOp aAdd (tC (.int 27)) (tVar 12)) tNil))) (tCons (tVar 3) (tCons (tVar 23) tNil)))))) (gName 24))
    (tIfS (tTest (tOp (rEqD K) (tCallS (spD K R__law_replayed) (WE W0) (tCons (tVar 2) (tCons (tVar 10) (tCons (tVar 22) (tCons (tVar 7) (tCons (tVar 6) (tCons (tOp (rIx K) (tVar 24) (tC (.int 0))) (tCons (tOp (rIx K) (tVar 24) (tC (.int 1))) tNil)))))))) (tVar 9))) (tRet (tC (.bl false))) tNext)))))))))))))
    (tRet (tC (.bl true))))))
end Ck

/-! The group of squares modulo 2q + 1 by its logarithms to the base 4; exponents modulo q. -/
namespace Ck

def Ord (q : Int) : Prop := q = 11 ∨ q = 23 ∨ q = 29 ∨ q = 41 ∨ q = 53 ∨ q = 83 ∨ q = 89 ∨ q = 113
theorem Ord.lo {q : Int} (h : Ord q) : 11 ≤ q := by unfold Ord at h; omega
theorem Ord.hi {q : Int} (h : Ord q) : q ≤ 113 := by unfold Ord at h; omega
theorem Ord.pos {q : Int} (h : Ord q) : 0 < q := by unfold Ord at h; omega
def G (q k : Int) : Int := 4 ^ (k % q).toNat % (2 * q + 1)
def pw (b e m : Int) : Int := b ^ e.toNat % m

/-! ### powers -/
theorem emod_pow (b m : Int) : ∀ n : Nat, (b % m) ^ n % m = b ^ n % m
  | 0 => by simp
  | n + 1 => by
    rw [Int.pow_succ, Int.pow_succ, Int.mul_emod, emod_pow b m n, Int.emod_emod_of_dvd b (Int.dvd_refl m), ← Int.mul_emod]
theorem pow_one_emod {b m : Int} (h : b % m = 1 % m) (n : Nat) : b ^ n % m = 1 % m := by
  rw [← emod_pow, h, emod_pow, Int.one_pow]
theorem ord4 {q : Int} (h : Ord q) : (4 : Int) ^ q.toNat % (2 * q + 1) = 1 % (2 * q + 1) := by
  unfold Ord at h
  rcases h with h | h | h | h | h | h | h | h <;> subst h <;> decide +kernel
theorem pow4_mod {q : Int} (h : Ord q) (n : Nat) : (4 : Int) ^ n % (2 * q + 1) = 4 ^ (n % q.toNat) % (2 * q + 1) := by
  have e : n = q.toNat * (n / q.toNat) + n % q.toNat := (Nat.div_add_mod n q.toNat).symm
  have h1 : (4 : Int) ^ n = (4 ^ q.toNat) ^ (n / q.toNat) * 4 ^ (n % q.toNat) := by
    rw [← Int.pow_mul, ← Int.pow_add]
    exact congrArg _ e
  rw [h1, Int.mul_emod, pow_one_emod (ord4 h), ← Int.mul_emod, Int.one_mul]
theorem G_nat {q : Int} (h : Ord q) (n : Nat) : G q n = 4 ^ n % (2 * q + 1) := by
  have hp := h.pos
  unfold G
  rw [pow4_mod h n]
  congr 2
  have : ((n : Int) % q).toNat = n % q.toNat := by
    have e : q = (q.toNat : Int) := by omega
    rw [e, ← Int.natCast_emod, Int.toNat_natCast]
    congr 1
  rw [this]
theorem G_mod {q : Int} (k : Int) : G q (k % q) = G q k := by
  unfold G
  rw [Int.emod_emod_of_dvd k (Int.dvd_refl q)]
theorem G_eq {q a b : Int} (h : a % q = b % q) : G q a = G q b := by
  unfold G
  rw [h]
theorem G_toNat {q : Int} (h : Ord q) (k : Int) : G q k = G q ((k % q).toNat : Nat) := by
  have hp := h.pos
  have h1 := Int.emod_nonneg k (Int.ne_of_gt hp)
  rw [← G_mod k]
  congr 1
  omega
theorem G_mul {q : Int} (h : Ord q) (i j : Int) : G q i * G q j % (2 * q + 1) = G q (i + j) := by
  have hp := h.pos
  rw [G_toNat h i, G_toNat h j, G_nat h, G_nat h, ← Int.mul_emod, ← Int.pow_add, ← G_nat h]
  apply G_eq
  have h1 := Int.emod_nonneg i (Int.ne_of_gt hp)
  have h2 := Int.emod_nonneg j (Int.ne_of_gt hp)
  have e : (((i % q).toNat + (j % q).toNat : Nat) : Int) = i % q + j % q := by omega
  rw [e, ← Int.add_emod]
theorem G_zero {q : Int} (h : Ord q) : G q 0 = 1 := by
  have hp := h.lo
  unfold G
  rw [Int.zero_emod]
  show (1 : Int) % _ = 1
  exact Int.emod_eq_of_lt (by omega) (by omega)
theorem G_red {q k : Int} : G q k % (2 * q + 1) = G q k := by
  unfold G
  exact Int.emod_emod_of_dvd _ (Int.dvd_refl _)
theorem G_lt {q : Int} (h : Ord q) (k : Int) : G q k < 2 * q + 1 := by
  have hp := h.lo
  unfold G
  exact Int.emod_lt_of_pos _ (by omega)
theorem G_nn {q : Int} (h : Ord q) (k : Int) : 0 ≤ G q k := by
  have hp := h.lo
  unfold G
  exact Int.emod_nonneg _ (by omega)
theorem G_pos {q : Int} (h : Ord q) (k : Int) : 0 < G q k := by
  have h1 := G_nn h k
  have hp := h.lo
  by_cases h0 : G q k = 0
  · have h2 := G_mul h k (-k)
    rw [h0, Int.add_right_neg, G_zero h, Int.zero_mul, Int.zero_emod] at h2
    cases h2
  · omega
theorem G_pow {q : Int} (h : Ord q) (i : Int) : ∀ n : Nat, G q i ^ n % (2 * q + 1) = G q (i * n)
  | 0 => by
    have hp := h.lo
    rw [show i * ((0 : Nat) : Int) = 0 by simp, G_zero h, Int.pow_zero]
    exact Int.emod_eq_of_lt (by omega) (by omega)
  | n + 1 => by
    rw [Int.pow_succ, Int.mul_emod, G_pow h i n, G_red, G_mul h]
    congr 1
    rw [show ((n + 1 : Nat) : Int) = (n : Int) + 1 by omega, Int.mul_add, Int.mul_one]
theorem G_pw {q : Int} (h : Ord q) {i e : Int} (he : 0 ≤ e) : pw (G q i) e (2 * q + 1) = G q (i * e) := by
  unfold pw
  rw [G_pow h]
  congr 2
  omega
/-- only the multiples of q give 1 -/
theorem ord4_least {q : Int} (h : Ord q) : ∀ n : Nat, n < q.toNat → (4 : Int) ^ n % (2 * q + 1) = 1 → n = 0 := by
  unfold Ord at h
  rcases h with h | h | h | h | h | h | h | h <;> subst h <;> decide +kernel
theorem G_one {q : Int} (h : Ord q) {k : Int} (e : G q k = 1) : k % q = 0 := by
  have hp := h.pos
  have h1 := Int.emod_nonneg k (Int.ne_of_gt hp)
  have h2 := Int.emod_lt_of_pos k hp
  have h3 := ord4_least h (k % q).toNat (by omega) e
  omega
theorem G_inj {q : Int} (h : Ord q) {a b : Int} (e : G q a = G q b) : a % q = b % q := by
  have h1 : G q (a - b) = 1 := by
    rw [Int.sub_eq_add_neg, ← G_mul h, e, G_mul h, Int.add_right_neg, G_zero h]
  exact Int.emod_eq_emod_iff_emod_sub_eq_zero.mpr (G_one h h1)
theorem G_iff {q : Int} (h : Ord q) {a b : Int} : G q a = G q b ↔ a % q = b % q := ⟨G_inj h, G_eq⟩

/-! ### inverses modulo q -/
def iv (q b : Int) : Int := pw b (q - 2) q
theorem inv_small {q : Int} (h : Ord q) : ∀ n : Nat, n < q.toNat → n ≠ 0 → (n : Int) * ((n : Int) ^ (q - 2).toNat % q) % q = 1 := by
  unfold Ord at h
  rcases h with h | h | h | h | h | h | h | h <;> subst h <;> decide +kernel
theorem iv_mul {q b : Int} (h : Ord q) (hb : b % q ≠ 0) : b * iv q b % q = 1 := by
  have hp := h.pos
  have h1 := Int.emod_nonneg b (Int.ne_of_gt hp)
  have h2 := Int.emod_lt_of_pos b hp
  have h3 := inv_small h (b % q).toNat (by omega) (by omega)
  have e : (((b % q).toNat : Nat) : Int) = b % q := by omega
  rw [e, emod_pow, Int.mul_emod, Int.emod_emod_of_dvd b (Int.dvd_refl q), ← Int.mul_emod] at h3
  exact h3
theorem iv_nn {q b : Int} (h : Ord q) : 0 ≤ iv q b := Int.emod_nonneg _ (Int.ne_of_gt h.pos)
theorem iv_lt {q b : Int} (h : Ord q) : iv q b < q := Int.emod_lt_of_pos _ h.pos
/-- the quotient a / b -/
def quo (q a b : Int) : Int := a * iv q b % q
theorem quo_nn {q a b : Int} (h : Ord q) : 0 ≤ quo q a b := Int.emod_nonneg _ (Int.ne_of_gt h.pos)
theorem quo_lt {q a b : Int} (h : Ord q) : quo q a b < q := Int.emod_lt_of_pos _ h.pos

/-! ### exponents as a ring -/
abbrev Zq (q : Int) : Type := Fin ((q - 1).toNat + 1)
noncomputable def ph (q a : Int) : Zq q := Lean.Grind.Ring.intCast.intCast a
theorem ph_add (q a b : Int) : ph q (a + b) = ph q a + ph q b := Lean.Grind.Ring.intCast_add a b
theorem ph_mul (q a b : Int) : ph q (a * b) = ph q a * ph q b := Lean.Grind.Ring.intCast_mul a b
theorem ph_neg (q a : Int) : ph q (-a) = - ph q a := Lean.Grind.Ring.intCast_neg a
theorem ph_sub (q a b : Int) : ph q (a - b) = ph q a - ph q b := Lean.Grind.Ring.intCast_sub a b
theorem ph_zero (q : Int) : ph q 0 = 0 := Lean.Grind.Ring.intCast_zero
theorem ph_one (q : Int) : ph q 1 = 1 := Lean.Grind.Ring.intCast_one
theorem ph_iff {q a b : Int} (h : Ord q) : ph q a = ph q b ↔ a % q = b % q := by
  have hq := h.pos
  have h := Lean.Grind.IsCharP.intCast_ext_iff (α := Zq q) ((q-1).toNat + 1) (x := a) (y := b)
  have e : (((q-1).toNat + 1 : Nat) : Int) = q := by omega
  rw [e] at h
  exact h
theorem ph_mod {q : Int} (h : Ord q) (a : Int) : ph q (a % q) = ph q a := (ph_iff h).mpr (Int.emod_emod_of_dvd a (Int.dvd_refl q))
theorem ph_inv {q b : Int} (h : Ord q) (hb : b % q ≠ 0) : ph q b * ph q (iv q b) = 1 := by
  rw [← ph_mul, ← ph_one, ph_iff h, iv_mul h hb]
  have := h.lo
  exact (Int.emod_eq_of_lt (by omega) (by omega)).symm
theorem ph_quo {q : Int} (h : Ord q) (a b : Int) : ph q (quo q a b) = ph q a * ph q (iv q b) := by
  unfold quo
  rw [ph_mod h, ph_mul]
theorem ph_ne {q b : Int} (h : Ord q) : ph q b = 0 ↔ b % q = 0 := by
  rw [← ph_zero, ph_iff h, Int.zero_emod]
theorem G_ph {q a b : Int} (h : Ord q) (e : ph q a = ph q b) : G q a = G q b := G_eq ((ph_iff h).mp e)
theorem quo_mul {q a b : Int} (h : Ord q) (hb : b % q ≠ 0) : (quo q a b * b) % q = a % q := by
  rw [← ph_iff h, ph_mul, ph_quo h]
  have := ph_inv h hb
  grind
theorem same_of {q a b : Int} (h : a % q = b % q) (ha : 0 ≤ a) (hb : 0 ≤ b) (ha2 : a < q) (hb2 : b < q) : a = b := by
  rw [Int.emod_eq_of_lt ha ha2, Int.emod_eq_of_lt hb hb2] at h
  exact h
/-- b * e gives v at one e alone -/
theorem quo_only {q b v e : Int} (h : Ord q) (hb : b % q ≠ 0) (he : 0 ≤ e) (he2 : e < q) (hv : (b * e) % q = v % q) : e = quo q v b := by
  apply same_of (q := q) _ he (quo_nn h) he2 (quo_lt h)
  rw [← ph_iff h] at hv ⊢
  rw [ph_mul] at hv
  rw [ph_quo h]
  have := ph_inv h hb
  grind
end Ck

/-! What the defs of coins and groups hand back. -/
namespace Ck
open PySem PySem.Spec PyProof.Rows L2

/-! ### operations on ints, by name -/
section
variable {i j : Int}
theorem od_add : OpD aAdd (.int i) (.int j) (.int (i + j)) := od_I0
theorem od_sub : OpD aSub (.int i) (.int j) (.int (i - j)) := od_I0
theorem od_mul (h : CMul i j) : OpD aMul (.int i) (.int j) (.int (i * j)) := od_I h
theorem od_mod (h : 0 < j) : OpD aMod (.int i) (.int j) (.int (i % j)) := od_I h
theorem od_div (h : 0 < j ∧ j < 1073741824) : OpD aDiv (.int i) (.int j) (.int (i / j)) := od_I h
theorem od_pow (h : CPow i j) : OpD aPow (.int i) (.int j) (.int (i ^ j.toNat)) := od_I h
theorem od_lt : OpD aLt (.int i) (.int j) (.bool (decide (i < j))) := od_B0
theorem od_le : OpD aLe (.int i) (.int j) (.bool (decide (i ≤ j))) := od_B0
theorem od_gt : OpD aGt (.int i) (.int j) (.bool (decide (j < i))) := od_B0
theorem od_ge : OpD aGe (.int i) (.int j) (.bool (decide (j ≤ i))) := od_B0
theorem mulL (h1 : -(2 ^ 64) < i) (h2 : i < 2 ^ 64) : CMul i j := .inl ⟨h1, h2⟩
theorem mulR (h1 : -(2 ^ 64) < j) (h2 : j < 2 ^ 64) : CMul i j := .inr ⟨h1, h2⟩
end
section
variable {r : Ro} {ta tb tc te : TE} {i j k : Int}
theorem ei_add (ha : EvD ta r (.int i)) (hb : EvD tb r (.int j)) : EvD (tOp aAdd ta tb) r (.int (i + j)) := ev_op ha hb od_add
theorem ei_sub (ha : EvD ta r (.int i)) (hb : EvD tb r (.int j)) : EvD (tOp aSub ta tb) r (.int (i - j)) := ev_op ha hb od_sub
theorem ei_mul (ha : EvD ta r (.int i)) (hb : EvD tb r (.int j)) (h : CMul i j) : EvD (tOp aMul ta tb) r (.int (i * j)) := ev_op ha hb (od_mul h)
theorem ei_mod (ha : EvD ta r (.int i)) (hb : EvD tb r (.int j)) (h : 0 < j) : EvD (tOp aMod ta tb) r (.int (i % j)) := ev_op ha hb (od_mod h)
theorem ei_div (ha : EvD ta r (.int i)) (hb : EvD tb r (.int j)) (h : 0 < j ∧ j < 1073741824) : EvD (tOp aDiv ta tb) r (.int (i / j)) := ev_op ha hb (od_div h)
theorem ei_lt (ha : EvD ta r (.int i)) (hb : EvD tb r (.int j)) : EvD (tOp aLt ta tb) r (.bool (decide (i < j))) := ev_op ha hb od_lt
theorem ei_le (ha : EvD ta r (.int i)) (hb : EvD tb r (.int j)) : EvD (tOp aLe ta tb) r (.bool (decide (i ≤ j))) := ev_op ha hb od_le
theorem ei_gt (ha : EvD ta r (.int i)) (hb : EvD tb r (.int j)) : EvD (tOp aGt ta tb) r (.bool (decide (j < i))) := ev_op ha hb od_gt
theorem ei_ge (ha : EvD ta r (.int i)) (hb : EvD tb r (.int j)) : EvD (tOp aGe ta tb) r (.bool (decide (j ≤ i))) := ev_op ha hb od_ge
theorem ei_eq (ha : EvD ta r (.int i)) (hb : EvD tb r (.int j)) : EvD (tOp rEq ta tb) r (.bool (decide (i = j))) := ev_op ha hb od_eqI
theorem ei_ne (ha : EvD ta r (.int i)) (hb : EvD tb r (.int j)) : EvD (tOp rNe ta tb) r (.bool (!decide (i = j))) := ev_op ha hb od_neI
/-- a test of ints whose answer is known -/
theorem eb_T {b : Bool} (h : EvD te r (.bool b)) (e : b = true) : EvB (tTest te) r true := by
  rw [← e]
  exact eb_test h
theorem eb_F {b : Bool} (h : EvD te r (.bool b)) (e : b = false) : EvB (tTest te) r false := by
  rw [← e]
  exact eb_test h
theorem eB_T {b : Bool} (h : EvD te r (.bool b)) (e : b = true) : EvB (tB te) r true := by
  rw [← e]
  exact eb_B h
theorem eB_F {b : Bool} (h : EvD te r (.bool b)) (e : b = false) : EvB (tB te) r false := by
  rw [← e]
  exact eb_B h
theorem eb_notF {t : TT} (h : EvB t r true) : EvB (tNot t) r false := eb_not h
theorem eb_notT {t : TT} (h : EvB t r false) : EvB (tNot t) r true := eb_not h
theorem eb_orF {t u : TT} (h1 : EvB t r false) (h2 : EvB u r false) : EvB (tOr t u) r false := eb_or h1 fun _ => h2
theorem eb_orTl {t u : TT} (h1 : EvB t r true) : EvB (tOr t u) r true := fun M0 H0 σ M H R Q q => h1 M0 H0 σ M H R _ fun M1 H1 g1 => q M1 H1 g1
theorem eb_orTr {t u : TT} (h1 : EvB t r false) (h2 : EvB u r true) : EvB (tOr t u) r true := eb_or h1 fun _ => h2
theorem eb_andT {t u : TT} (h1 : EvB t r true) (h2 : EvB u r true) : EvB (tAnd t u) r true := eb_and h1 fun _ => h2
theorem eb_andFl {t u : TT} (h1 : EvB t r false) : EvB (tAnd t u) r false := fun M0 H0 σ M H R Q q => h1 M0 H0 σ M H R _ fun M1 H1 g1 => q M1 H1 g1
theorem eb_andFr {t u : TT} (h1 : EvB t r true) (h2 : EvB u r false) : EvB (tAnd t u) r false := eb_and h1 fun _ => h2
theorem ev_andT (h1 : EvD ta r (.bool true)) (h2 : EvD tb r (.bool true)) : EvD (tAndV ta tb) r (.bool true) := ev_and h1 fun _ => h2
theorem ev_andFl (h1 : EvD ta r (.bool false)) : EvD (tAndV ta tb) r (.bool false) := fun M0 H0 σ M H R Q q => h1 M0 H0 σ M H R _ fun v M1 H1 g1 r1 => by
  cases r1
  exact ⟨false, rfl, q _ M1 H1 g1 (.bl _)⟩
theorem ev_andFr (h1 : EvD ta r (.bool true)) (h2 : EvD tb r (.bool false)) : EvD (tAndV ta tb) r (.bool false) := ev_and h1 fun _ => h2
end


theorem len_le {n : Nat} (h : Nat.ble n 100000 = true) : n ≤ 100000 := Nat.le_of_ble_eq_true h

/-! ### forgetting -/
def Wk (r r' : Ro) : Prop := r'.length = r.length ∧ ∀ (i : Nat) s, r'[i]? = some s → s ≠ .no → r[i]? = some s
theorem Rep.weak {M0 H0 M H : Hp} {r r' : Ro} {σ : L2.St} (R : Rep M0 H0 r σ M H) (w : Wk r r') : Rep M0 H0 r' σ M H :=
  ⟨R.g, by rw [w.1, R.len], fun i d e => R.dat i d (w.2 i _ e (fun z => by cases z)), fun i ds e => R.own i ds (w.2 i _ e (fun z => by cases z)),
    fun i j ds es a h1 h2 h3 h4 => R.ap i j ds es a (w.2 i _ h1 (fun z => by cases z)) (w.2 j _ h2 (fun z => by cases z)) h3 h4, fun i v m e => R.frz i v m (w.2 i _ e (fun z => by cases z))⟩
theorem wk_set {r : Ro} (j : Nat) : Wk r (r.set j .no) := ⟨List.length_set, fun i s e hn => by
  by_cases hij : j = i
  · subst hij
    by_cases hl : j < r.length
    · rw [List.getElem?_set_self hl] at e
      exact absurd (Option.some.inj e).symm hn
    · rw [List.getElem?_eq_none (by rw [List.length_set]; omega)] at e
      cases e
  · rw [List.getElem?_set_ne hij] at e
    exact e⟩
theorem ex_forget {K : PySem.W.Frag} {W : WX} {t : TS} {r r' r2 : Ro} (j : Nat) (h : ExS K W t r (.nx r')) (e : r'.set j .no = r2) : ExS K W t r (.nx r2) := fun M0 H0 D σ M H R p =>
  h M0 H0 D σ M H R fun σ' M' H' s R' => p σ' M' H' s (by rw [← e]; exact R'.weak (wk_set j))
theorem ex_to {K : PySem.W.Frag} {W : WX} {t : TS} {r r' r2 : Ro} (h : ExS K W t r (.nx r')) (e : r' = r2) : ExS K W t r (.nx r2) := by
  rw [← e]
  exact h

/-! ### while, by a step on data -/
def itn {α : Type} (step : α → α) : Nat → α → α
  | 0, x => x
  | n + 1, x => itn step n (step x)
theorem itn_succ {α : Type} (step : α → α) : ∀ (n : Nat) (x : α), itn step (n + 1) x = step (itn step n x)
  | 0, _ => rfl
  | n + 1, x => itn_succ step n (step x)
theorem ex_whileS {K : PySem.W.Frag} {W : WX} {tc : TT} {t : TS} {α : Type} (enc : α → Ro) (cond : α → Bool) (step : α → α) (μ : α → Nat) (Iv : α → Prop) (hi : ∀ x, Iv x → cond x = true → Iv (step x) ∧ μ (step x) < μ x)
    (hc : ∀ x, Iv x → EvB tc (enc x) (cond x)) (hb : ∀ x, Iv x → cond x = true → ExS K W t (enc x) (.nx (enc (step x)))) (x0 : α) (h0 : Iv x0) :
    ∃ x', Iv x' ∧ cond x' = false ∧ ExS K W (tWhile tc t) (enc x0) (.nx (enc x')) := by
  have end_ : ∀ (m : Nat) (x : α), μ x ≤ m → Iv x → ∃ n, (∀ i, i < n → Iv (itn step i x) ∧ cond (itn step i x) = true) ∧ Iv (itn step n x) ∧ cond (itn step n x) = false := by
    intro m
    induction m with
    | zero =>
      intro x hm hx
      cases hcx : cond x with
      | false => exact ⟨0, fun i hi => absurd hi (Nat.not_lt_zero _), hx, hcx⟩
      | true =>
        have := (hi x hx hcx).2
        omega
    | succ m ih =>
      intro x hm hx
      cases hcx : cond x with
      | false => exact ⟨0, fun i hi => absurd hi (Nat.not_lt_zero _), hx, hcx⟩
      | true =>
        obtain ⟨h1, h2⟩ := hi x hx hcx
        obtain ⟨n, k1, k2, k3⟩ := ih (step x) (by omega) h1
        refine ⟨n + 1, fun i hi => ?_, k2, k3⟩
        cases i with
        | zero => exact ⟨hx, hcx⟩
        | succ i => exact k1 i (by omega)
  obtain ⟨n, k1, k2, k3⟩ := end_ (μ x0) x0 (Nat.le_refl _) h0
  refine ⟨itn step n x0, k2, k3, ex_while (fun i => enc (itn step i x0)) n rfl (fun i hi => ?_) (fun i hi => ?_) ?_⟩
  · have h := hc _ (k1 i hi).1
    rw [(k1 i hi).2] at h
    exact h
  · have h := hb _ (k1 i hi).1 (k1 i hi).2
    rw [← itn_succ step] at h
    exact h
  · have h := hc _ k2
    rw [k3] at h
    exact h

/-! ### coins -/
def coinStep (h : Int) (c : Nat) : Int := (h * 263 + c + 1) % 2147483647
def coinMix (h : Int) : Int := (h * 48271 + 12345) % 2147483647
def coinF (seed n : Int) (text : Str) : Int := coinMix (coinMix (coinMix (text.cps.toList.foldl coinStep ((seed * 31 + n * 1009 + 11) % 2147483647)))) / 1000 % 1000000
theorem coinF_nn (s n : Int) (t : Str) : 0 ≤ coinF s n t := Int.emod_nonneg _ (by decide)
theorem coinF_lt (s n : Int) (t : Str) : coinF s n t < 1000000 := Int.emod_lt_of_pos _ (by decide)
inductive R_coin : Con
  | mk {s n : Int} {t : Str} : 0 ≤ s → s ≤ 1000000 → 0 ≤ n → n ≤ 1000000 → R_coin [.int s, .int n, .str t] (.ret (.int (coinF s n t)))
theorem mod_range (a : Int) : 0 ≤ a % 2147483647 ∧ a % 2147483647 < 2147483647 := ⟨Int.emod_nonneg _ (by decide), Int.emod_lt_of_pos _ (by decide)⟩
theorem fold_take {α β : Type} (f : β → α → β) (b : β) (l : List α) {i : Nat} {a : α} (h : l[i]? = some a) : (l.take (i + 1)).foldl f b = f ((l.take i).foldl f b) a := by
  rw [List.take_add_one, h, List.foldl_append] <;> rfl
theorem bd_coin {K : PySem.W.Frag} (E : XK) (ds : List PyData) (o : Out) (h : R_coin ds o) : Bd K E (t_coin K E) (ro N_coin ds) o := by
  cases h with
  | @mk s n t h1 h2 h3 h4 =>
    refine bd_ret (ex_seq (ex_set (ei_mod (ei_add (ei_add (ei_mul (ev_var rfl) ev_int (mulL (by omega) (by omega))) (ei_mul (ev_var rfl) ev_int (mulL (by omega) (by omega)))) ev_int) ev_int (by omega))) ?_)
    have h0 := mod_range (s * 31 + n * 1009 + 11)
    generalize hx0 : (s * 31 + n * 1009 + 11) % 2147483647 = x0 at h0
    have hv : ∀ i : Nat, 0 ≤ (t.cps.toList.take i).foldl coinStep x0 ∧ (t.cps.toList.take i).foldl coinStep x0 < 2147483647 := fun i => by
      have : ∀ (l : List Nat) (x : Int), 0 ≤ x ∧ x < 2147483647 → 0 ≤ l.foldl coinStep x ∧ l.foldl coinStep x < 2147483647 := by
        intro l
        induction l with
        | nil => intro x hx; exact hx
        | cons a l ih => intro x hx; exact ih _ (mod_range _)
      exact this _ _ h0
    have hx : ∀ (i : Nat) c, t.cps.toList[i]? = some c → coinStep ((t.cps.toList.take i).foldl coinStep x0) c = (t.cps.toList.take (i + 1)).foldl coinStep x0 := fun i c hc => (fold_take _ _ _ hc).symm
    refine ex_seq (ex_for (fun i => [.dat (.int s), .dat (.int n), .dat (.str t), .dat (.int ((t.cps.toList.take i).foldl coinStep x0)), .no, .no]) (wk_str (ev_var rfl)) (by rw [← hx0]; rfl) fun i d hd => ?_) ?_
    · unfold strD at hd
      rw [List.getElem?_map] at hd
      cases hc : t.cps.toList[i]? with
      | none =>
        rw [hc] at hd
        cases hd
      | some c =>
        rw [hc] at hd
        cases hd
        have hb := hv i
        refine ⟨_, _, tg_name, ex_forget 4 (ex_set (ei_mod (ei_add (ei_add (ei_mul (ev_var rfl) ev_int (mulL (by omega) (by omega))) (ev_cb (ea_cons (ev_var rfl) ea_nil) cb_ord)) ev_int) ev_int (by omega))) ?_⟩
        rw [← hx i c hc]
        rfl
    · rw [show (strD t).length = t.cps.toList.length by simp [strD], List.take_length]
      have hw := hv t.cps.toList.length
      rw [List.take_length] at hw
      generalize hy0 : t.cps.toList.foldl coinStep x0 = y0 at hw
      refine ex_seq (ex_for (fun i => [.dat (.int s), .dat (.int n), .dat (.str t), .dat (.int (itn coinMix i y0)), .no, .no]) (wk_rng (ea_cons ev_int ea_nil) (by decide)) rfl fun i d hd => ?_) ?_
      · have hb : 0 ≤ itn coinMix i y0 ∧ itn coinMix i y0 < 2147483647 := by
          cases i with
          | zero => exact hw
          | succ i =>
            rw [itn_succ]
            exact mod_range _
        refine ⟨_, _, tg_name, ex_forget 5 (ex_set (ei_mod (ei_add (ei_mul (ev_var rfl) ev_int (mulL (by omega) (by omega))) ev_int) ev_int (by omega))) ?_⟩
        rw [itn_succ]
        rfl
      · have e : coinF s n t = itn coinMix 3 y0 / 1000 % 1000000 := by
          unfold coinF
          rw [hx0, hy0]
          rfl
        rw [e]
        exact ex_ret (ei_mod (ei_div (ev_var rfl) ev_int (by decide)) ev_int (by decide))

def chalS (q : Int) (t : Str) : Int := 1 + coinF 0 q t % (q - 1)
theorem chalS_lo {q : Int} (h : Ord q) (t : Str) : 1 ≤ chalS q t := by
  have hp := h.lo
  have := Int.emod_nonneg (coinF 0 q t) (b := q - 1) (by omega)
  unfold chalS
  omega
theorem chalS_hi {q : Int} (h : Ord q) (t : Str) : chalS q t < q := by
  have hp := h.lo
  have := Int.emod_lt_of_pos (coinF 0 q t) (b := q - 1) (by omega)
  unfold chalS
  omega
inductive R_challenge : Con
  | mk {q : Int} {t : Str} : Ord q → R_challenge [.int q, .str t] (.ret (.int (chalS q t)))
theorem bd_challenge {K : PySem.W.Frag} (E : XK) (ds : List PyData) (o : Out) (h : R_challenge ds o) : Bd K E (t_challenge K E R_coin) (ro N_challenge ds) o := by
  cases h with
  | @mk q t hq =>
    have h1 := hq.lo
    have h2 := hq.hi
    exact bd_ret (ex_ret (ei_add ev_int (ei_mod (ev_call (ea_cons ev_int (ea_cons (ev_var rfl) (ea_cons (ev_var rfl) ea_nil))) (.mk (by omega) (by omega) (by omega) (by omega))) (ei_sub (ev_var rfl) ev_int) (by omega))))

/-! ### joined texts -/
def numT (n : Int) : Str := Str.ofString (toString n)
def jt (w : Str) (ns : List Int) : Str := Txt.join " " (w :: ns.map numT)
def Sm (ns : List Int) : Prop := ∀ n ∈ ns, n.natAbs < 10 ^ 9
theorem numT_len {n : Int} (h : n.natAbs < 10 ^ 9) : (numT n).length ≤ 10 := by
  have e := PySem.int_text_length_le10 (k := 9) (by decide) h
  unfold numT
  rw [PySem.ofString_length]
  omega
theorem sum_len : ∀ {ns : List Int}, Sm ns → ((ns.map numT).map (·.length)).sum ≤ 10 * ns.length
  | [], _ => by simp
  | n :: ns, h => by
    have h1 := numT_len (h n List.mem_cons_self)
    have h2 := sum_len (ns := ns) fun m hm => h m (List.mem_cons_of_mem _ hm)
    simp only [List.map_cons, List.sum_cons, List.length_cons]
    omega
theorem blank_len : (" " : Str).length = 1 := by decide +kernel
theorem jt_len {w : Str} {ns : List Int} (h : Sm ns) : (jt w ns).length ≤ w.length + 11 * ns.length + 1 := by
  unfold jt
  rw [show Txt.join " " (w :: ns.map numT) = Str.join " " (w :: ns.map numT) from TL.join_eq _ _]
  have h1 := StrLaws.join_length_le " " (w :: ns.map numT)
  have h2 := sum_len h
  rw [List.map_cons, List.sum_cons, List.length_cons, List.length_map, blank_len] at h1
  omega
inductive R_joined_text : Con
  | mk {w : Str} {ns : List Int} : w.length ≤ 100000 → ns.length ≤ 10000 → Sm ns → R_joined_text [.str w, .list (ns.map .int)] (.ret (.str (jt w ns)))
theorem map_get {α β : Type} {f : α → β} {l : List α} {i : Nat} {b : β} (h : (l.map f)[i]? = some b) : ∃ a, l[i]? = some a ∧ b = f a := by
  rw [List.getElem?_map] at h
  cases e : l[i]? with
  | none =>
    rw [e] at h
    cases h
  | some a =>
    rw [e] at h
    exact ⟨a, rfl, (Option.some.inj h).symm⟩
theorem bd_joined_text {K : PySem.W.Frag} (E : XK) (ds : List PyData) (o : Out) (h : R_joined_text ds o) : Bd K E (t_joined_text K E) (ro N_joined_text ds) o := by
  cases h with
  | @mk w ns hw hl hs =>
    refine bd_ret (ex_ret (ev_join ev_str (ev_is (ev_rest (eo_op (ev_rest (eo_lst (ea_cons (ev_var rfl) ea_nil) (len_le rfl))) (ev_rest (eo_lc (ns.map fun n => .str (numT n)) (ws_list (ev_var rfl)) rfl (by simp) (by simp; omega) fun i d y hd hy => ?_)) (oo_cat ?_))) ?_) ?_))
    · obtain ⟨n, h1, rfl⟩ := map_get hd
      obtain ⟨n', h2, rfl⟩ := map_get hy
      rw [h1] at h2
      cases h2
      refine ⟨_, _, tg_name, fun j hj => hj, ev_cb (ea_cons (ev_var rfl) ea_nil) (cb_str ?_)⟩
      exact Nat.lt_trans (hs n (List.mem_of_getElem? h1)) (by decide)
    · simp
      omega
    · simp
    · have h2 := sum_len hs
      rw [List.map_cons, List.sum_cons, List.length_cons, List.length_map, blank_len]
      omega
def chal (q : Int) (w : Str) (ns : List Int) : Int := chalS q (jt w ns)
theorem chal_lo {q : Int} (h : Ord q) (w : Str) (ns : List Int) : 1 ≤ chal q w ns := chalS_lo h _
theorem chal_hi {q : Int} (h : Ord q) (w : Str) (ns : List Int) : chal q w ns < q := chalS_hi h _
inductive R_challenge_of : Con
  | mk {q : Int} {w : Str} {ns : List Int} : Ord q → w.length ≤ 100000 → ns.length ≤ 10000 → Sm ns → R_challenge_of [.int q, .str w, .list (ns.map .int)] (.ret (.int (chal q w ns)))
theorem bd_challenge_of {K : PySem.W.Frag} (E : XK) (ds : List PyData) (o : Out) (h : R_challenge_of ds o) : Bd K E (t_challenge_of K E R_joined_text R_challenge) (ro N_challenge_of ds) o := by
  cases h with
  | @mk q w ns hq hw hl hs =>
    exact bd_ret (ex_ret (ev_call (ea_cons (ev_var rfl) (ea_cons (ev_call (ea_cons (ev_var rfl) (ea_cons (ev_var rfl) ea_nil)) (.mk hw hl hs)) ea_nil)) (.mk hq)))

/-! ### powers -/
inductive R_raised : Con
  | mk {b e m : Int} : -(2 ^ 30) < b → b < 2 ^ 30 → 0 ≤ e → 1 < m → m < 2 ^ 30 → R_raised [.int b, .int e, .int m] (.ret (.int (pw b e m)))
abbrev Tri : Type := Int × Int × Int
def rStep (m : Int) (x : Tri) : Tri := (x.1 / 2, if x.1 % 2 = 1 then x.2.1 * x.2.2 % m else x.2.1, x.2.2 * x.2.2 % m)
theorem pow_half {e : Int} (h : 0 < e) (s : Int) : s ^ e.toNat = if e % 2 = 1 then s * (s * s) ^ (e / 2).toNat else (s * s) ^ (e / 2).toNat := by
  have h2 : (s * s) = s ^ 2 := by rw [Int.pow_succ, Int.pow_succ, Int.pow_zero, Int.one_mul]
  rw [h2, ← Int.pow_mul]
  split
  · rename_i h1
    rw [Int.mul_comm, ← Int.pow_succ]
    congr 1
    omega
  · rename_i h1
    congr 1
    omega
theorem mul_pow_mod (a s m : Int) (n : Nat) : a * (s % m) ^ n % m = a * s ^ n % m := by
  rw [Int.mul_emod, emod_pow, ← Int.mul_emod]
theorem rStep_ok {m : Int} {x : Tri} (h : 0 < x.1) : (rStep m x).2.1 * (rStep m x).2.2 ^ (rStep m x).1.toNat % m = x.2.1 * x.2.2 ^ x.1.toNat % m := by
  obtain ⟨e, v, s⟩ := x
  show (if e % 2 = 1 then v * s % m else v) * (s * s % m) ^ (e / 2).toNat % m = v * s ^ e.toNat % m
  rw [mul_pow_mod, pow_half h]
  split
  · rw [Int.mul_emod, Int.emod_emod_of_dvd _ (Int.dvd_refl m), ← Int.mul_emod, Int.mul_assoc]
  · rfl
theorem bd_raised {K : PySem.W.Frag} (E : XK) (ds : List PyData) (o : Out) (h : R_raised ds o) : Bd K E (t_raised K E) (ro N_raised ds) o := by
  cases h with
  | @mk b e m hb1 hb2 he hm1 hm2 =>
    have hs := Int.emod_nonneg b (b := m) (by omega)
    have hs2 := Int.emod_lt_of_pos b (b := m) (by omega)
    obtain ⟨x', ⟨i1, i2, i3, i4, i5, i6⟩, hc, hw⟩ := ex_whileS (K := K) (W := WD E)
      (tc := (tTest (tOp aGt (tVar 1) (tC (.int 0)))))
      (t := (tSeq (tIfS (tTest (tOp rEq (tOp aMod (tVar 1) (tC (.int 2))) (tC (.int 1)))) (tAsg (tOp aMod (tOp aMul (tVar 3) (tVar 4)) (tVar 2)) (gName 3)) tNext) (tSeq (tAsg (tOp aMod (tOp aMul (tVar 4) (tVar 4)) (tVar 2)) (gName 4)) (tAug 1 (tC (.int 2)) aDiv))))
      (fun x : Tri => [.dat (.int b), .dat (.int x.1), .dat (.int m), .dat (.int x.2.1), .dat (.int x.2.2)]) (fun x => decide (0 < x.1)) (rStep m) (fun x => x.1.toNat)
      (fun x => 0 ≤ x.1 ∧ 0 ≤ x.2.1 ∧ x.2.1 < m ∧ 0 ≤ x.2.2 ∧ x.2.2 < m ∧ x.2.1 * x.2.2 ^ x.1.toNat % m = b ^ e.toNat % m)
      (fun x hx hc => by
        obtain ⟨h1, h2, h3, h4, h5, h6⟩ := hx
        have hc : 0 < x.1 := of_decide_eq_true hc
        have k := rStep_ok (m := m) hc
        obtain ⟨e', v, s⟩ := x
        dsimp only at h1 h2 h3 h4 h5 h6 hc
        refine ⟨⟨?_, ?_, ?_, ?_, ?_, k.trans h6⟩, ?_⟩
        · show 0 ≤ e' / 2; omega
        · show 0 ≤ (if e' % 2 = 1 then v * s % m else v)
          split
          · exact Int.emod_nonneg _ (by omega)
          · exact h2
        · show (if e' % 2 = 1 then v * s % m else v) < m
          split
          · exact Int.emod_lt_of_pos _ (by omega)
          · exact h3
        · exact Int.emod_nonneg _ (by omega)
        · exact Int.emod_lt_of_pos _ (by omega)
        · show (e' / 2).toNat < e'.toNat; omega)
      (fun x hx => eb_test (ei_gt (ev_var rfl) ev_int))
      (fun x hx hc => by
        obtain ⟨h1, h2, h3, h4, h5, h6⟩ := hx
        have hc : 0 < x.1 := of_decide_eq_true hc
        obtain ⟨e', v, s⟩ := x
        dsimp only at h1 h2 h3 h4 h5 h6 hc
        refine ex_seq (r1 := [.dat (.int b), .dat (.int e'), .dat (.int m), .dat (.int (if e' % 2 = 1 then v * s % m else v)), .dat (.int s)]) (ex_if (b := decide (e' % 2 = 1)) (eb_test (ei_eq (ei_mod (ev_var rfl) ev_int (by decide)) ev_int)) ?_)
          (ex_seq (ex_set (ei_mod (ei_mul (ev_var rfl) (ev_var rfl) (mulL (by omega) (by omega))) (ev_var rfl) (by omega))) (ex_to (ex_aug rfl ev_int (od_div (by decide))) rfl))
        by_cases hp : e' % 2 = 1
        · rw [if_pos (decide_eq_true hp), if_pos hp]
          exact ex_set (ei_mod (ei_mul (ev_var rfl) (ev_var rfl) (mulL (by omega) (by omega))) (ev_var rfl) (by omega))
        · rw [if_neg (by simpa using hp), if_neg hp]
          exact ex_next)
      (e, 1, b % m) ⟨he, by show (0 : Int) ≤ 1; omega, by show 1 < m; omega, hs, hs2, by
        show 1 * (b % m) ^ e.toNat % m = _
        rw [mul_pow_mod, Int.one_mul]⟩
    have hx0 : x'.1 = 0 := by
      have : ¬ (0 < x'.1) := of_decide_eq_false hc
      omega
    have hv : x'.2.1 = pw b e m := by
      rw [hx0] at i6
      have e1 : x'.2.1 * x'.2.2 ^ (0 : Int).toNat = x'.2.1 := by show x'.2.1 * x'.2.2 ^ 0 = _; rw [Int.pow_zero, Int.mul_one]
      rw [e1, Int.emod_eq_of_lt i2 i3] at i6
      exact i6
    refine bd_ret (ex_seq (ex_set ev_int) (ex_seq (ex_set (ei_mod (ev_var rfl) (ev_var rfl) (by omega))) (ex_seq hw (ex_ret ?_))))
    rw [← hv]
    exact ev_var rfl

/-! ### elements -/
inductive R_is_element : Con
  | mk {q k : Int} : Ord q → R_is_element [.int q, .int (G q k)] (.ret (.bool true))
theorem bd_is_element {K : PySem.W.Frag} (E : XK) (ds : List PyData) (o : Out) (h : R_is_element ds o) : Bd K E (t_is_element K E R_raised) (ro N_is_element ds) o := by
  cases h with
  | @mk q k hq =>
    have h1 := hq.lo
    have h2 := hq.hi
    have h3 := G_pos hq k
    have h4 := G_lt hq k
    have e : pw (G q k) q (2 * q + 1) = 1 := by
      rw [G_pw hq (by omega), ← G_zero hq]
      exact G_eq (by rw [Int.mul_emod_left, Int.zero_emod])
    have hp : EvD (tOp aAdd (tOp aMul (tC (.int 2)) (tVar 0)) (tC (.int 1))) (ro N_is_element [.int q, .int (G q k)]) (.int (2 * q + 1)) := ei_add (ei_mul ev_int (ev_var rfl) (mulL (by omega) (by omega))) ev_int
    refine bd_ret (ex_ret (ev_andT (ev_is (ev_chain ev_int (ev_var rfl) hp) ?_) (ev_is (ei_eq (ev_call (ea_cons (ev_var rfl) (ea_cons (ev_var rfl) (ea_cons hp ea_nil))) (.mk (by omega) (by omega) (by omega) (by omega) (by omega))) ev_int) ?_)))
    · rw [decide_eq_true h3, decide_eq_true h4]
      rfl
    · rw [e]
      rfl
inductive R_check_element : Con
  | mk {q k : Int} : Ord q → R_check_element [.int q, .int (G q k)] (.ret .none)
theorem bd_check_element {K : PySem.W.Frag} (E : XK) (ds : List PyData) (o : Out) (h : R_check_element ds o) : Bd K E (t_check_element K E R_is_element) (ro N_check_element ds) o := by
  cases h with
  | @mk q k hq => exact bd_none (ex_ifF (eb_notF (eb_B (ev_call (ea_cons (ev_var rfl) (ea_cons (ev_var rfl) ea_nil)) (.mk hq)))) ex_next)
inductive R_power : Con
  | mk {q k e : Int} : Ord q → R_power [.int q, .int (G q k), .int e] (.ret (.int (G q (k * e))))
theorem G_mulmod {q : Int} (h : Ord q) (k e : Int) : G q (k * (e % q)) = G q (k * e) := G_ph h (by rw [ph_mul, ph_mod h, ph_mul])
theorem bd_power {K : PySem.W.Frag} (E : XK) (ds : List PyData) (o : Out) (h : R_power ds o) : Bd K E (t_power K E R_check_element R_raised) (ro N_power ds) o := by
  cases h with
  | @mk q k e hq =>
    have h1 := hq.lo
    have h2 := hq.hi
    have h3 := G_pos hq k
    have h4 := G_lt hq k
    have h5 := Int.emod_nonneg e (b := q) (by omega)
    rw [← G_mulmod hq, ← G_pw hq h5]
    exact bd_ret (ex_seq (ex_drop (ev_call (ea_cons (ev_var rfl) (ea_cons (ev_var rfl) ea_nil)) (.mk hq))) (ex_ret (ev_call (ea_cons (ev_var rfl) (ea_cons (ei_mod (ev_var rfl) (ev_var rfl) (by omega)) (ea_cons (ei_add (ei_mul ev_int (ev_var rfl) (mulL (by omega) (by omega))) ev_int) ea_nil))) (.mk (by omega) (by omega) h5 (by omega) (by omega)))))
inductive R_product : Con
  | mk {q i j : Int} : Ord q → R_product [.int q, .int (G q i), .int (G q j)] (.ret (.int (G q (i + j))))
theorem bd_product {K : PySem.W.Frag} (E : XK) (ds : List PyData) (o : Out) (h : R_product ds o) : Bd K E (t_product K E R_check_element) (ro N_product ds) o := by
  cases h with
  | @mk q i j hq =>
    have h1 := hq.lo
    have h2 := hq.hi
    have h3 := G_pos hq i
    have h4 := G_lt hq i
    rw [← G_mul hq]
    exact bd_ret (ex_seq (ex_drop (ev_call (ea_cons (ev_var rfl) (ea_cons (ev_var rfl) ea_nil)) (.mk hq))) (ex_seq (ex_drop (ev_call (ea_cons (ev_var rfl) (ea_cons (ev_var rfl) ea_nil)) (.mk hq)))
      (ex_ret (ei_mod (ei_mul (ev_var rfl) (ev_var rfl) (mulL (by omega) (by omega))) (ei_add (ei_mul ev_int (ev_var rfl) (mulL (by omega) (by omega))) ev_int) (by omega)))))
/-- the sum of k * e -/
def dot : List Int → List Int → Int
  | k :: ks, e :: es => k * e + dot ks es
  | _, _ => 0
theorem dot_take : ∀ {ks es : List Int} {i : Nat} {k e : Int}, ks[i]? = some k → es[i]? = some e → dot (ks.take (i + 1)) (es.take (i + 1)) = dot (ks.take i) (es.take i) + k * e
  | [], _, _, _, _, h, _ => by simp at h
  | _ :: _, [], _, _, _, _, h => by simp at h
  | a :: ks, b :: es, 0, k, e, h1, h2 => by
    simp at h1 h2
    subst h1 h2
    simp [dot]
  | a :: ks, b :: es, i + 1, k, e, h1, h2 => by
    have ih := dot_take (ks := ks) (es := es) (i := i) (k := k) (e := e) (by simpa using h1) (by simpa using h2)
    show a * b + dot (ks.take (i + 1)) (es.take (i + 1)) = a * b + dot (ks.take i) (es.take i) + k * e
    rw [ih, Int.add_assoc]
inductive R_product_of_powers : Con
  | mk {q : Int} {ks es : List Int} : Ord q → ks.length = es.length → R_product_of_powers [.int q, .list (ks.map fun k => .int (G q k)), .list (es.map .int)] (.ret (.int (G q (dot ks es))))
theorem bd_product_of_powers {K : PySem.W.Frag} (E : XK) (ds : List PyData) (o : Out) (h : R_product_of_powers ds o) : Bd K E (t_product_of_powers K E R_power) (ro N_product_of_powers ds) o := by
  cases h with
  | @mk q ks es hq hl =>
    have h1 := hq.lo
    have h2 := hq.hi
    refine bd_ret (ex_seq (ex_ifF (eb_F (ei_ne (ev_cb (ea_cons (ev_var rfl) ea_nil) cb_lenL) (ev_cb (ea_cons (ev_var rfl) ea_nil) cb_lenL)) (by simp [hl])) ex_next) (ex_seq (ex_set ev_int) (ex_seq
      (ex_for (fun i => [.dat (.int q), .dat (.list (ks.map fun k => .int (G q k))), .dat (.list (es.map .int)), .dat (.int (G q (dot (ks.take i) (es.take i)))), .no, .no])
        (wk_zipL (ea_cons (ev_var rfl) (ea_cons (ev_var rfl) ea_nil)) (by simp [hl])) ?_ fun i d hd => ?_) ?_)))
    · show _ = [Sl.dat (.int q), .dat (.list (ks.map fun k => .int (G q k))), .dat (.list (es.map .int)), .dat (.int 1), .no, .no]
      rw [List.take_zero, List.take_zero]
      show [Sl.dat (.int q), .dat (.list (ks.map fun k => .int (G q k))), .dat (.list (es.map .int)), .dat (.int (G q 0)), .no, .no] = _
      rw [G_zero hq]
    · obtain ⟨x, y, hx, hy, rfl⟩ := zipD_get hd
      obtain ⟨k, hk, rfl⟩ := map_get hx
      obtain ⟨e, he, rfl⟩ := map_get hy
      have h3 := G_pos hq (dot (ks.take i) (es.take i))
      have h4 := G_lt hq (dot (ks.take i) (es.take i))
      refine ⟨_, _, tg_tup (tgs_cons tg_name (tgs_cons tg_name tgs_nil)) rfl, ex_forget 5 (ex_forget 4 (ex_set (ei_mod (ei_mul (ev_var rfl) (ev_call (ea_cons (ev_var rfl) (ea_cons (ev_var rfl) (ea_cons (ev_var rfl) ea_nil))) (.mk hq)) (mulL (by omega) (by omega))) (ei_add (ei_mul ev_int (ev_var rfl) (mulL (by omega) (by omega))) ev_int) (by omega))) rfl) ?_⟩
      rw [dot_take hk he, ← G_mul hq]
      rfl
    · rw [show (zipD (ks.map fun k => PyData.int (G q k)) (es.map PyData.int)).length = ks.length by unfold zipD; rw [List.length_zipWith, List.length_map, List.length_map, hl, Nat.min_self]]
      rw [show dot ks es = dot (ks.take ks.length) (es.take ks.length) by rw [List.take_length, hl, List.take_length]]
      exact ex_ret (ev_var rfl)
inductive R_inverse : Con
  | mk {q k : Int} : Ord q → R_inverse [.int q, .int (G q k)] (.ret (.int (G q (k * -1))))
theorem bd_inverse {K : PySem.W.Frag} (E : XK) (ds : List PyData) (o : Out) (h : R_inverse ds o) : Bd K E (t_inverse K E R_power) (ro N_inverse ds) o := by
  cases h with
  | @mk q k hq => exact bd_ret (ex_ret (ev_call (ea_cons (ev_var rfl) (ea_cons (ev_var rfl) (ea_cons (ev_neg ev_int) ea_nil))) (.mk hq)))
inductive R_logarithm : Con
  | mk {q b v : Int} : Ord q → b % q ≠ 0 → R_logarithm [.int q, .int (G q b), .int (G q v)] (.ret (.int (quo q v b)))
theorem bd_logarithm {K : PySem.W.Frag} (E : XK) (ds : List PyData) (o : Out) (h : R_logarithm ds o) : Bd K E (t_logarithm K E R_check_element) (ro N_logarithm ds) o := by
  cases h with
  | @mk q b v hq hb =>
    have h1 := hq.lo
    have h2 := hq.hi
    have hne : ¬ G q b = 1 := fun e => hb (G_one hq e)
    have l0 := quo_nn (a := v) (b := b) hq
    have l1 := quo_lt (a := v) (b := b) hq
    have hend : G q (b * quo q v b) = G q v := G_eq (by rw [Int.mul_comm]; exact quo_mul hq hb)
    refine bd_ret (ex_seq (ex_drop (ev_call (ea_cons (ev_var rfl) (ea_cons (ev_var rfl) ea_nil)) (.mk hq))) (ex_seq (ex_drop (ev_call (ea_cons (ev_var rfl) (ea_cons (ev_var rfl) ea_nil)) (.mk hq)))
      (ex_seq (ex_ifF (eb_F (ei_eq (ev_var rfl) ev_int) (decide_eq_false hne)) ex_next) (ex_seq (ex_set ev_int) (ex_seq (ex_set ev_int) (ex_seq
        (ex_while (fun i => [.dat (.int q), .dat (.int (G q b)), .dat (.int (G q v)), .dat (.int (i : Nat)), .dat (.int (G q (b * (i : Nat))))]) (quo q v b).toNat ?_ (fun i hi => ?_) (fun i hi => ?_) ?_) ?_))))))
    · show _ = [Sl.dat (.int q), .dat (.int (G q b)), .dat (.int (G q v)), .dat (.int 0), .dat (.int 1)]
      rw [show b * ((0 : Nat) : Int) = 0 by simp, G_zero hq]
      rfl
    · have hx : ¬ G q (b * (i : Nat)) = G q v := fun e => by
        have := quo_only hq hb (e := (i : Int)) (by omega) (by omega) (G_inj hq e)
        omega
      exact eb_T (ei_ne (ev_var rfl) (ev_var rfl)) (by rw [decide_eq_false hx]; rfl)
    · have h3 := G_pos hq (b * (i : Nat))
      have h4 := G_lt hq (b * (i : Nat))
      refine ex_seq (ex_set (ei_mod (ei_mul (ev_var rfl) (ev_var rfl) (mulL (by omega) (by omega))) (ei_add (ei_mul ev_int (ev_var rfl) (mulL (by omega) (by omega))) ev_int) (by omega))) (ex_to (ex_aug rfl ev_int od_add) ?_)
      rw [G_mul hq, show ((i + 1 : Nat) : Int) = (i : Int) + 1 by omega, Int.mul_add, Int.mul_one]
      rfl
    · have e : ((quo q v b).toNat : Int) = quo q v b := by omega
      exact eb_F (ei_ne (ev_var rfl) (ev_var rfl)) (by rw [e, decide_eq_true hend]; rfl)
    · have e : ((quo q v b).toNat : Int) = quo q v b := by omega
      rw [e]
      exact ex_ret (ev_var rfl)
inductive R_quotient : Con
  | mk {q a b : Int} : Ord q → -(2 ^ 30) < b → b < 2 ^ 30 → b % q ≠ 0 → R_quotient [.int q, .int a, .int b] (.ret (.int (quo q a b)))
  | mkX {q a b : Int} : Ord q → b % q = 0 → R_quotient [.int q, .int a, .int b] (.exc "NotAllowed")
theorem bd_quotient {K : PySem.W.Frag} (E : XK) (ds : List PyData) (o : Out) (h : R_quotient ds o) : Bd K E (t_quotient K E R_raised) (ro N_quotient ds) o := by
  cases h with
  | @mk q a b hq hb1 hb2 hb =>
    have h1 := hq.lo
    have h2 := hq.hi
    have i1 := iv_nn (b := b) hq
    have i2 := iv_lt (b := b) hq
    refine bd_ret (ex_seq (ex_ifF (eb_F (ei_eq (ei_mod (ev_var rfl) (ev_var rfl) (by omega)) ev_int) (decide_eq_false hb)) ex_next) (ex_ret (ei_mod (ei_mul (ev_var rfl) (ev_call (ea_cons (ev_var rfl) (ea_cons (ei_sub (ev_var rfl) ev_int) (ea_cons (ev_var rfl) ea_nil))) (.mk hb1 hb2 (by omega) (by omega) (by omega))) (mulR ?_ ?_)) (ev_var rfl) (by omega))))
    · show _ < iv q b; omega
    · show iv q b < _; omega
  | @mkX q a b hq hb =>
    have h1 := hq.lo
    exact bd_exc (ex_stop (ex_ifT (eb_T (ei_eq (ei_mod (ev_var rfl) (ev_var rfl) (by omega)) ev_int) (decide_eq_true hb)) ex_tRaise) trivial)
/-! ### setups -/
def se (q seed : Int) (i : Nat) : Int := 1 + coinF seed (i : Nat) "base" % (q - 1)
theorem se_lo {q : Int} (h : Ord q) (s : Int) (i : Nat) : 1 ≤ se q s i := by
  have hp := h.lo
  have := Int.emod_nonneg (coinF s (i : Nat) "base") (b := q - 1) (by omega)
  unfold se
  omega
theorem se_hi {q : Int} (h : Ord q) (s : Int) (i : Nat) : se q s i < q := by
  have hp := h.lo
  have := Int.emod_lt_of_pos (coinF s (i : Nat) "base") (b := q - 1) (by omega)
  unfold se
  omega
def dSet (q : Int) (a : Nat → Int) : PyData := .tuple [.int q, .tuple [.int (G q (a 0)), .int (G q (a 1)), .int (G q (a 2)), .int (G q (a 3)), .int (G q (a 4))]]
theorem G_1 {q : Int} (h : Ord q) : G q 1 = 4 := by
  unfold Ord at h
  rcases h with h | h | h | h | h | h | h | h <;> subst h <;> decide +kernel
inductive R_setup_of : Con
  | mk {q s : Int} : Ord q → 0 ≤ s → s ≤ 1000000 → R_setup_of [.int q, .int s] (.ret (dSet q (se q s)))
theorem rngD_get {n i : Nat} {d : PyData} (h : (rngD n)[i]? = some d) : i < n ∧ d = .int (i : Nat) := by
  unfold rngD at h
  obtain ⟨a, h1, h2⟩ := map_get h
  have hi : i < n := by
    have := (List.getElem?_eq_some_iff.mp h1).1
    rw [List.length_range] at this
    exact this
  rw [List.getElem?_range hi] at h1
  cases h1
  exact ⟨hi, h2⟩
theorem bd_setup_of {K : PySem.W.Frag} (E : XK) (ds : List PyData) (o : Out) (h : R_setup_of ds o) : Bd K E (t_setup_of K E R_coin R_power) (ro N_setup_of ds) o := by
  cases h with
  | @mk q s hq hs1 hs2 =>
    have h1 := hq.lo
    have h2 := hq.hi
    refine bd_ret (ex_ret (ev_tup (ea_cons (ev_var rfl) (ea_cons (ev_cb (ea_cons (ev_rest (eo_lc ((List.range 5).map fun i => .int (G q (se q s i))) (wk_rng (ea_cons ev_int ea_nil) (by decide)) rfl rfl (len_le rfl) fun i d y hd hy => ?_)) ea_nil) cb_tupL) ea_nil)) (len_le rfl)))
    obtain ⟨hi, rfl⟩ := rngD_get hd
    obtain ⟨i', hi', rfl⟩ := map_get hy
    have hi : i < 5 := hi
    rw [List.getElem?_range hi] at hi'
    cases hi'
    refine ⟨_, _, tg_name, fun j hj => hj, ev_is (ev_call (ea_cons (ev_var rfl) (ea_cons ev_int (ea_cons (ei_add ev_int (ei_mod (ev_call (ea_cons (ev_var rfl) (ea_cons (ev_var rfl) (ea_cons ev_str ea_nil))) (.mk hs1 hs2 (by omega) (by omega))) (ei_sub (ev_var rfl) ev_int) (by omega))) ea_nil))) (R := R_power) (d := .int (G q (1 * se q s i))) (by rw [← G_1 hq]; exact .mk hq)) (by rw [Int.one_mul])⟩
end Ck

/-! What the defs of claims and choices hand back. -/
namespace Ck
open PySem PySem.Spec PyProof.Rows L2

def Rg (q x : Int) : Prop := 0 ≤ x ∧ x < q
theorem rg_mod {q : Int} (h : Ord q) (a : Int) : Rg q (a % q) := ⟨Int.emod_nonneg _ (Int.ne_of_gt h.pos), Int.emod_lt_of_pos _ h.pos⟩
def Rg3 (q : Int) (p : Tri) : Prop := Rg q p.1 ∧ Rg q p.2.1 ∧ Rg q p.2.2
def dCl (q A b g : Int) : PyData := .tuple [.int 2, .tuple [.tuple [.int (G q A), .tuple [.int (G q b), .int (G q g)]]]]
def dPr (p : Tri) : PyData := .tuple [.int p.1, .tuple [.int p.2.1, .int p.2.2]]
def dCh (q A g : Int) (bs : List Int) : PyData := .tuple (bs.map fun b => dCl q A b g)
def dPa (ps : List Tri) : PyData := .tuple (ps.map dPr)

/-! ### all([..]) -/
theorem ev_allT {K : PySem.W.Frag} {r : Ro} {te : TE} {n : Nat} (h : EvO te r (List.replicate n (.bool true))) : EvD (tCB (rAll K) (tCons te tNil)) r (.bool true) := by
  refine ev_is (ev_cb (ea_cons (ev_rest (eo_is h (?_ : _ = (List.replicate n true).map PyData.bool))) ea_nil) cb_all) ?_
  · rw [List.map_replicate]
  · congr 1
    rw [List.all_eq_true]
    intro b hb
    exact (List.mem_replicate.mp hb).2
theorem rep_get {n i : Nat} {d y : PyData} (h : (List.replicate n d)[i]? = some y) : y = d := (List.mem_replicate.mp (List.mem_of_getElem? h)).2

inductive R_is_exponent_claims : Con
  | mk {q n : Int} : R_is_exponent_claims [.int q, .int n] (.ret (.bool (decide (0 ≤ n) && decide (n < q))))
theorem bd_is_exponent_claims {K : PySem.W.Frag} (E : XK) (ds : List PyData) (o : Out) (h : R_is_exponent_claims ds o) : Bd K E (t_is_exponent_claims K E) (ro N_is_exponent_claims ds) o := by
  cases h with
  | mk => exact bd_ret (ex_ret (ev_chain ev_int (ev_var rfl) (ev_var rfl)))
theorem rg_dec {q x : Int} (h : Rg q x) : (decide (0 ≤ x) && decide (x < q)) = true := by
  rw [decide_eq_true h.1, decide_eq_true h.2]
  rfl
theorem R_is_exponent_claims.yes {q x : Int} (h : Rg q x) : R_is_exponent_claims [.int q, .int x] (.ret (.bool true)) := by
  have e : R_is_exponent_claims [.int q, .int x] (.ret (.bool (decide (0 ≤ x) && decide (x < q)))) := .mk
  rw [rg_dec h] at e
  exact e
inductive R_are_values : Con
  | mk {q A b g x y : Int} : Rg q x → Rg q y → R_are_values [.int q, dCl q A b g, .tuple [.int x, .int y]] (.ret (.bool true))
theorem bd_are_values {K : PySem.W.Frag} (E : XK) (ds : List PyData) (o : Out) (h : R_are_values ds o) : Bd K E (t_are_values K E R_is_exponent_claims) (ro N_are_values ds) o := by
  cases h with
  | @mk q A b g x y hx hy =>
    refine bd_ret (ex_ret (ev_andT (ev_is (ei_eq (ev_cb (ea_cons (ev_var rfl) ea_nil) cb_lenT) (ev_op (ev_var rfl) ev_int (od_ixT rfl))) rfl) (ev_allT (n := 2) (eo_lc _ (ws_tup (ev_var rfl)) rfl rfl (len_le rfl) fun i d z hd hz => ?_))))
    cases rep_get hz
    refine ⟨_, _, tg_name, fun j hj => hj, ?_⟩
    match i, hd with
    | 0, hd => cases hd; exact ev_call (ea_cons (ev_var rfl) (ea_cons (ev_var rfl) ea_nil)) (.yes hx)
    | 1, hd => cases hd; exact ev_call (ea_cons (ev_var rfl) (ea_cons (ev_var rfl) ea_nil)) (.yes hy)
    | i + 2, hd => simp at hd
inductive R_check_values : Con
  | mk {q A b g x y : Int} : Rg q x → Rg q y → R_check_values [.int q, dCl q A b g, .tuple [.int x, .int y]] (.ret .none)
theorem bd_check_values {K : PySem.W.Frag} (E : XK) (ds : List PyData) (o : Out) (h : R_check_values ds o) : Bd K E (t_check_values K E R_are_values) (ro N_check_values ds) o := by
  cases h with
  | mk hx hy => exact bd_none (ex_ifF (eb_notF (eb_B (ev_call (ea_cons (ev_var rfl) (ea_cons (ev_var rfl) (ea_cons (ev_var rfl) ea_nil))) (.mk hx hy)))) ex_next)
inductive R_holds : Con
  | mk {q A b g x y : Int} : Ord q → Rg q x → Rg q y → G q (dot [b, g] [x, y]) = G q A → R_holds [.int q, dCl q A b g, .tuple [.int x, .int y]] (.ret (.bool true))
theorem bd_holds {K : PySem.W.Frag} (E : XK) (ds : List PyData) (o : Out) (h : R_holds ds o) : Bd K E (t_holds K E R_check_values R_product_of_powers) (ro N_holds ds) o := by
  cases h with
  | @mk q A b g x y hq hx hy he =>
    refine bd_ret (ex_seq (ex_drop (ev_call (ea_cons (ev_var rfl) (ea_cons (ev_var rfl) (ea_cons (ev_var rfl) ea_nil))) (.mk hx hy))) (ex_ret (ev_allT (n := 1) (eo_lc _ (ws_tup (ev_op (ev_var rfl) ev_int (od_ixT rfl))) rfl rfl (len_le rfl) fun i d z hd hz => ?_))))
    cases rep_get hz
    match i, hd with
    | 0, hd =>
      cases hd
      refine ⟨_, _, tg_tup (tgs_cons tg_name (tgs_cons tg_name tgs_nil)) rfl, fun j hj => hj, ?_⟩
      refine ev_is (ei_eq (ev_call (ea_cons (ev_var rfl) (ea_cons (ev_rest (eo_cb (ea_cons (ev_var rfl) ea_nil) co_listT)) (ea_cons (ev_rest (eo_cb (ea_cons (ev_var rfl) ea_nil) co_listT)) ea_nil))) (.mk (ks := [b, g]) (es := [x, y]) hq rfl)) (ev_var rfl)) ?_
      rw [decide_eq_true he]
    | i + 1, hd => simp at hd
inductive R_claim_numbers : Con
  | mk {q A b g : Int} : R_claim_numbers [dCl q A b g] (.ret (.list ([2, 1, G q A, G q b, G q g].map .int)))
theorem bd_claim_numbers {K : PySem.W.Frag} (E : XK) (ds : List PyData) (o : Out) (h : R_claim_numbers ds o) : Bd K E (t_claim_numbers K E) (ro N_claim_numbers ds) o := by
  cases h with
  | @mk q A b g =>
    refine bd_ret (ex_seq (ex_setO (eo_lst (ea_cons (ev_op (ev_var rfl) ev_int (od_ixT rfl)) (ea_cons (ev_cb (ea_cons (ev_op (ev_var rfl) ev_int (od_ixT rfl)) ea_nil) cb_lenT) ea_nil)) (len_le rfl))) (ex_seq
      (ex_for (fun i => match i with
        | 0 => [.dat (dCl q A b g), .own [.int 2, .int 1], .no, .no]
        | _ + 1 => [.dat (dCl q A b g), .own [.int 2, .int 1, .int (G q A), .int (G q b), .int (G q g)], .no, .no]) (ws_tup (ev_op (ev_var rfl) ev_int (od_ixT rfl))) rfl fun i d hd => ?_)
      (ex_rest (j := 1) rfl (ex_ret (ev_var rfl)))))
    match i, hd with
    | 0, hd =>
      cases hd
      exact ⟨_, _, tg_tup (tgs_cons tg_name (tgs_cons tg_name tgs_nil)) rfl, ex_forget 3 (ex_forget 2 (ex_seq (ex_append rfl (ev_var rfl) (len_le rfl)) (ex_extendT rfl (ev_var rfl) (len_le rfl))) rfl) rfl⟩
    | i + 1, hd => simp at hd
/-- the trace of a pair -/
def tr (q A g b : Int) (p : Tri) : Int := G q (dot [b, g] [p.2.1, p.2.2] + A * p.1 * -1)
inductive R_traces : Con
  | mk {q A b g : Int} {p : Tri} : Ord q → Rg3 q p → R_traces [.int q, dCl q A b g, .int p.1, .tuple [.int p.2.1, .int p.2.2]] (.ret (.list [.int (tr q A g b p)]))
theorem bd_traces {K : PySem.W.Frag} (E : XK) (ds : List PyData) (o : Out) (h : R_traces ds o) : Bd K E (t_traces K E R_is_exponent_claims R_check_values R_product_of_powers R_power R_inverse R_product) (ro N_traces ds) o := by
  cases h with
  | @mk q A b g p hq hp =>
    obtain ⟨c, x, y⟩ := p
    obtain ⟨hc, hx, hy⟩ := hp
    refine bd_ret (ex_seq (ex_ifF (eb_notF (eb_B (ev_call (ea_cons (ev_var rfl) (ea_cons (ev_var rfl) ea_nil)) (.yes hc)))) ex_next) (ex_seq (ex_drop (ev_call (ea_cons (ev_var rfl) (ea_cons (ev_var rfl) (ea_cons (ev_var rfl) ea_nil))) (.mk hx hy))) (ex_seq (ex_setO (eo_lst ea_nil (len_le rfl))) (ex_seq
      (ex_for (fun i => match i with
        | 0 => [.dat (.int q), .dat (dCl q A b g), .dat (.int c), .dat (.tuple [.int x, .int y]), .own [], .no, .no, .no]
        | _ + 1 => [.dat (.int q), .dat (dCl q A b g), .dat (.int c), .dat (.tuple [.int x, .int y]), .own [.int (tr q A g b (c, x, y))], .no, .no, .no]) (ws_tup (ev_op (ev_var rfl) ev_int (od_ixT rfl))) rfl fun i d hd => ?_)
      (ex_rest (j := 4) rfl (ex_ret (ev_var rfl)))))))
    match i, hd with
    | 0, hd =>
      cases hd
      refine ⟨_, _, tg_tup (tgs_cons tg_name (tgs_cons tg_name tgs_nil)) rfl, ex_forget 7 (ex_forget 6 (ex_forget 5 (ex_seq (ex_set (ev_call (ea_cons (ev_var rfl) (ea_cons (ev_rest (eo_cb (ea_cons (ev_var rfl) ea_nil) co_listT)) (ea_cons (ev_rest (eo_cb (ea_cons (ev_var rfl) ea_nil) co_listT)) ea_nil))) (.mk (ks := [b, g]) (es := [x, y]) hq rfl)))
        (ex_append rfl (ev_call (ea_cons (ev_var rfl) (ea_cons (ev_var rfl) (ea_cons (ev_call (ea_cons (ev_var rfl) (ea_cons (ev_call (ea_cons (ev_var rfl) (ea_cons (ev_var rfl) (ea_cons (ev_var rfl) ea_nil))) (.mk hq)) ea_nil)) (.mk hq)) ea_nil))) (.mk hq)) (len_le rfl))) rfl) rfl) rfl⟩
    | i + 1, hd => simp at hd
/-- the numbers of a choice -/
def cn1 (q A g b : Int) : List Int := [2, 1, G q A, G q b, G q g]
def cn (q A g : Int) (bs : List Int) : List Int := (bs.length : Int) :: bs.flatMap (cn1 q A g)
theorem cn_take {q A g : Int} {bs : List Int} {i : Nat} {b : Int} (h : bs[i]? = some b) : (bs.take (i + 1)).flatMap (cn1 q A g) = (bs.take i).flatMap (cn1 q A g) ++ cn1 q A g b := by
  rw [List.take_add_one, h, List.flatMap_append]
  simp
theorem cn_len {q A g : Int} : ∀ bs : List Int, (bs.flatMap (cn1 q A g)).length = 5 * bs.length
  | [] => rfl
  | b :: bs => by
    rw [List.flatMap_cons, List.length_append, cn_len bs, List.length_cons]
    show 5 + 5 * bs.length = _
    omega
inductive R_choice_numbers : Con
  | mk {q A g : Int} {bs : List Int} : bs.length ≤ 100 → R_choice_numbers [dCh q A g bs] (.new ((cn q A g bs).map .int))
theorem bd_choice_numbers {K : PySem.W.Frag} (E : XK) (ds : List PyData) (o : Out) (h : R_choice_numbers ds o) : Bd K E (t_choice_numbers K E R_claim_numbers) (ro N_choice_numbers ds) o := by
  cases h with
  | @mk q A g bs hl =>
    refine bd_new (ex_seq (ex_setO (eo_lst (ea_cons (ev_cb (ea_cons (ev_var rfl) ea_nil) cb_lenT) ea_nil) (len_le rfl))) (ex_seq
      (ex_for (fun i => [.dat (dCh q A g bs), .own (.int (bs.length : Int) :: ((bs.take i).flatMap (cn1 q A g)).map .int), .no]) (ws_tup (ev_var rfl)) ?_ fun i d hd => ?_) ?_))
    · rw [List.take_zero]
      simp [ro, dCh]
    · obtain ⟨b, hb, rfl⟩ := map_get hd
      refine ⟨_, _, tg_name, ex_forget 2 (ex_extend rfl (ev_call (ea_cons (ev_var rfl) ea_nil) .mk) ?_) ?_⟩
      · have := List.length_take_le' i bs
        simp only [List.length_cons, List.length_map, cn_len, List.length_nil]
        omega
      · rw [cn_take hb, List.map_append]
        rfl
    · rw [List.length_map, List.take_length]
      exact ex_retNew rfl
inductive R_has_form : Con
  | mk {q A g : Int} {bs : List Int} {ps : List Tri} : ps.length = bs.length → (∀ p ∈ ps, Rg3 q p) → R_has_form [.int q, dCh q A g bs, dPa ps] (.ret (.bool true))
theorem bd_has_form {K : PySem.W.Frag} (E : XK) (ds : List PyData) (o : Out) (h : R_has_form ds o) : Bd K E (t_has_form K E R_is_exponent_claims R_are_values) (ro N_has_form ds) o := by
  cases h with
  | @mk q A g bs ps hl hr =>
    refine bd_ret (ex_seq (ex_ifF (eb_F (ei_ne (ev_cb (ea_cons (ev_var rfl) ea_nil) cb_lenT) (ev_cb (ea_cons (ev_var rfl) ea_nil) cb_lenT)) (by simp [hl])) ex_next) (ex_seq
      (ex_for (fun i => [.dat (.int q), .dat (dCh q A g bs), .dat (dPa ps), .no, .no]) (wk_zipT (ea_cons (ev_var rfl) (ea_cons (ev_var rfl) ea_nil)) (by simp [hl])) rfl fun i d hd => ?_) (ex_ret ev_bl)))
    obtain ⟨x, y, hx, hy, rfl⟩ := zipD_get hd
    obtain ⟨b, hb, rfl⟩ := map_get hx
    obtain ⟨p, hp, rfl⟩ := map_get hy
    obtain ⟨h1, h2, h3⟩ := hr p (List.mem_of_getElem? hp)
    exact ⟨_, _, tg_tup (tgs_cons tg_name (tgs_cons tg_name tgs_nil)) rfl, ex_forget 4 (ex_forget 3 (ex_ifF (eb_orF (eb_F (ei_ne (ev_cb (ea_cons (ev_var rfl) ea_nil) cb_lenT) ev_int) rfl) (eb_orF (eb_notF (eb_B (ev_call (ea_cons (ev_var rfl) (ea_cons (ev_op (ev_var rfl) ev_int (od_ixT rfl)) ea_nil)) (.yes h1))))
      (eb_notF (eb_B (ev_call (ea_cons (ev_var rfl) (ea_cons (ev_var rfl) (ea_cons (ev_op (ev_var rfl) ev_int (od_ixT rfl)) ea_nil))) (.mk h2 h3)))))) ex_next) rfl) rfl⟩
/-- the traces of a paper -/
def trs (q A g : Int) (bs : List Int) (ps : List Tri) : List Int := List.zipWith (tr q A g) bs ps
theorem zipWith_take {α β γ : Type} (f : α → β → γ) : ∀ {l : List α} {m : List β} {i : Nat} {a : α} {b : β}, l[i]? = some a → m[i]? = some b → List.zipWith f (l.take (i + 1)) (m.take (i + 1)) = List.zipWith f (l.take i) (m.take i) ++ [f a b]
  | [], _, _, _, _, h, _ => by simp at h
  | _ :: _, [], _, _, _, _, h => by simp at h
  | x :: l, y :: m, 0, a, b, h1, h2 => by
    simp at h1 h2
    subst h1 h2
    rfl
  | x :: l, y :: m, i + 1, a, b, h1, h2 => by
    have ih := zipWith_take f (l := l) (m := m) (i := i) (a := a) (b := b) (by simpa using h1) (by simpa using h2)
    show f x y :: List.zipWith f (l.take (i + 1)) (m.take (i + 1)) = f x y :: List.zipWith f (l.take i) (m.take i) ++ [f a b]
    rw [ih]
    rfl
def callV (q : Int) (text : Str) (A g : Int) (bs : List Int) (ps : List Tri) : Int := chal q (("paper " : Str) ++ text) (cn q A g bs ++ trs q A g bs ps)
theorem sm_G {q : Int} (h : Ord q) (k : Int) : (G q k).natAbs < 10 ^ 9 := by
  have h1 := G_nn h k
  have h2 := G_lt h k
  have h3 := h.hi
  omega
theorem sm_cn {q A g : Int} (h : Ord q) {bs : List Int} (hl : bs.length ≤ 100) : Sm (cn q A g bs) := by
  intro n hn
  unfold cn at hn
  rcases List.mem_cons.mp hn with rfl | hn
  · omega
  · obtain ⟨b, _, hb⟩ := List.mem_flatMap.mp hn
    unfold cn1 at hb
    simp only [List.mem_cons, List.not_mem_nil, or_false] at hb
    rcases hb with rfl | rfl | rfl | rfl | rfl
    · decide
    · decide
    · exact sm_G h _
    · exact sm_G h _
    · exact sm_G h _
theorem sm_trs {q A g : Int} (h : Ord q) {bs : List Int} {ps : List Tri} : Sm (trs q A g bs ps) := by
  intro n hn
  unfold trs at hn
  obtain ⟨i, hi⟩ := List.mem_iff_getElem?.mp hn
  rw [List.getElem?_zipWith] at hi
  split at hi
  · cases hi
    exact sm_G h _
  · cases hi
theorem sm_app {a b : List Int} (h1 : Sm a) (h2 : Sm b) : Sm (a ++ b) := fun n hn => (List.mem_append.mp hn).elim (h1 n) (h2 n)
theorem paper_len : ("paper " : Str).length = 6 := by decide +kernel
theorem str_app_len (a b : Str) : (a ++ b).length = a.length + b.length := Str.length_append a b
inductive R_call_of : Con
  | mk {q A g : Int} {text : Str} {bs : List Int} {ps : List Tri} : Ord q → text.length ≤ 50000 → bs.length ≤ 100 → ps.length = bs.length → (∀ p ∈ ps, Rg3 q p) → R_call_of [.int q, .str text, dCh q A g bs, dPa ps] (.ret (.int (callV q text A g bs ps)))
theorem bd_call_of {K : PySem.W.Frag} (E : XK) (ds : List PyData) (o : Out) (h : R_call_of ds o) : Bd K E (t_call_of K E R_choice_numbers R_traces R_challenge_of) (ro N_call_of ds) o := by
  cases h with
  | @mk q A g text bs ps hq ht hb hl hr =>
    refine bd_ret (ex_seq (ex_setO (eo_call (ea_cons (ev_var rfl) ea_nil) (.mk hb))) (ex_seq
      (ex_for (fun i => [.dat (.int q), .dat (.str text), .dat (dCh q A g bs), .dat (dPa ps), .own ((cn q A g bs ++ trs q A g (bs.take i) (ps.take i)).map .int), .no, .no]) (wk_zipT (ea_cons (ev_var rfl) (ea_cons (ev_var rfl) ea_nil)) (by simp [hl])) ?_ fun i d hd => ?_) ?_))
    · rw [List.take_zero, List.take_zero]
      show [Sl.dat (.int q), .dat (.str text), .dat (dCh q A g bs), .dat (dPa ps), .own ((cn q A g bs ++ []).map .int), .no, .no] = _
      rw [List.append_nil]
      rfl
    · obtain ⟨x, y, hx, hy, rfl⟩ := zipD_get hd
      obtain ⟨b, hb', rfl⟩ := map_get hx
      obtain ⟨p, hp, rfl⟩ := map_get hy
      have h3 := hr p (List.mem_of_getElem? hp)
      refine ⟨_, _, tg_tup (tgs_cons tg_name (tgs_cons tg_name tgs_nil)) rfl, ex_forget 6 (ex_forget 5 (ex_extend rfl (ev_call (ea_cons (ev_var rfl) (ea_cons (ev_var rfl) (ea_cons (ev_op (ev_var rfl) ev_int (od_ixT rfl)) (ea_cons (ev_op (ev_var rfl) ev_int (od_ixT rfl)) ea_nil)))) (.mk hq h3)) ?_) rfl) ?_⟩
      · have h1 := List.length_take_le' i bs
        simp only [List.length_append, List.length_map, List.length_cons, List.length_nil, cn, cn_len, trs, List.length_zipWith]
        omega
      · show _ = [Sl.dat (.int q), .dat (.str text), .dat (dCh q A g bs), .dat (dPa ps), .own ((cn q A g bs ++ List.zipWith (tr q A g) (bs.take (i + 1)) (ps.take (i + 1))).map .int), .no, .no]
        have e : (cn q A g bs ++ List.zipWith (tr q A g) (bs.take (i + 1)) (ps.take (i + 1))).map PyData.int = (cn q A g bs ++ trs q A g (bs.take i) (ps.take i)).map PyData.int ++ [.int (tr q A g b p)] := by
          rw [zipWith_take (tr q A g) hb' hp, ← List.append_assoc, List.map_append]
          rfl
        rw [e]
        rfl
    · have hz : (zipD (bs.map fun b => dCl q A b g) (ps.map dPr)).length = bs.length := by unfold zipD; rw [List.length_zipWith, List.length_map, List.length_map, hl, Nat.min_self]
      rw [hz, List.take_length, ← hl, List.take_length]
      refine ex_rest (j := 4) rfl (ex_ret (ev_call (ea_cons (ev_var rfl) (ea_cons (ev_op ev_str (ev_var rfl) (od_addS ?_)) (ea_cons (ev_var rfl) ea_nil))) (.mk hq ?_ ?_ (sm_app (sm_cn hq hb) (sm_trs hq)))))
      · rw [paper_len]; omega
      · rw [str_app_len, paper_len]; omega
      · simp only [List.length_append, cn, List.length_cons, cn_len, trs, List.length_zipWith]
        omega
theorem ixN_nat {n i : Nat} (h : i < n) : ixN n (i : Int) = some i := by
  unfold ixN
  rw [if_pos (by omega), if_pos (by omega)]
  congr 1
theorem atI_map {α : Type} {f : α → PyData} {l : List α} {i : Nat} {a : α} (h : l[i]? = some a) : atI (l.map f) (i : Int) = some (f a) := atI_nat (by rw [List.getElem?_map, h] <;> rfl)
inductive R_check_maker : Con
  | mk {q A g x y b : Int} {bs : List Int} {i : Nat} : Ord q → bs[i]? = some b → Rg q x → Rg q y → G q (dot [b, g] [x, y]) = G q A → R_check_maker [.int q, dCh q A g bs, .int (i : Int), .tuple [.int x, .int y]] (.ret .none)
theorem bd_check_maker {K : PySem.W.Frag} (E : XK) (ds : List PyData) (o : Out) (h : R_check_maker ds o) : Bd K E (t_check_maker K E R_are_values R_holds) (ro N_check_maker ds) o := by
  cases h with
  | @mk q A g x y b bs i hq hi hx hy he =>
    have hlt := (List.getElem?_eq_some_iff.mp hi).1
    have hix : EvD (tOp (rIx K) (tVar 1) (tVar 2)) (ro N_check_maker [.int q, dCh q A g bs, .int (i : Int), .tuple [.int x, .int y]]) (dCl q A b g) := ev_op (ev_var rfl) (ev_var rfl) (od_ixT (atI_map hi))
    exact bd_none (ex_seq (ex_ifF (eb_orF (eb_F (ei_lt (ev_var rfl) ev_int) (decide_eq_false (by omega))) (eb_orF (eb_F (ei_ge (ev_var rfl) (ev_cb (ea_cons (ev_var rfl) ea_nil) cb_lenT)) (decide_eq_false (by rw [List.length_map]; omega)))
      (eb_notF (eb_B (ev_call (ea_cons (ev_var rfl) (ea_cons hix (ea_cons (ev_var rfl) ea_nil))) (.mk hx hy)))))) ex_next)
      (ex_ifF (eb_notF (eb_B (ev_call (ea_cons (ev_var rfl) (ea_cons hix (ea_cons (ev_var rfl) ea_nil))) (.mk hq hx hy he)))) ex_next))
/-- the exponents of all claims but the k-th -/
def soL (k : Int) : Nat → List Tri → List Int
  | _, [] => []
  | n, p :: ps => if (n : Int) = k then soL k (n + 1) ps else p.1 :: soL k (n + 1) ps
def soth (k : Int) (ps : List Tri) : Int := (soL k 0 ps).sum
theorem soL_app {k : Int} {p : Tri} : ∀ (ps : List Tri) (n : Nat), soL k n (ps ++ [p]) = soL k n ps ++ (if ((n + ps.length : Nat) : Int) = k then [] else [p.1])
  | [], n => by
    show soL k n [p] = [] ++ _
    rw [List.nil_append]
    show (if (n : Int) = k then [] else [p.1]) = if ((n + 0 : Nat) : Int) = k then [] else [p.1]
    rfl
  | a :: ps, n => by
    have ih := soL_app (k := k) (p := p) ps (n + 1)
    have e : n + 1 + ps.length = n + (a :: ps).length := by simp; omega
    rw [e] at ih
    show soL k n (a :: (ps ++ [p])) = _
    unfold soL
    split
    · exact ih
    · rw [ih]
      rfl
theorem soL_len {k : Int} : ∀ (ps : List Tri) (n : Nat), (soL k n ps).length ≤ ps.length
  | [], _ => Nat.le_refl _
  | a :: ps, n => by
    have ih := soL_len (k := k) ps (n + 1)
    unfold soL
    split
    · exact Nat.le_succ_of_le ih
    · exact Nat.succ_le_succ ih
inductive R_sum_of_others : Con
  | mk {ps : List Tri} {k : Int} : ps.length ≤ 100 → R_sum_of_others [dPa ps, .int k] (.ret (.int (soth k ps)))
theorem bd_sum_of_others {K : PySem.W.Frag} (E : XK) (ds : List PyData) (o : Out) (h : R_sum_of_others ds o) : Bd K E (t_sum_of_others K E) (ro N_sum_of_others ds) o := by
  cases h with
  | @mk ps k hl =>
    refine bd_ret (ex_ret (ev_cb (ea_cons (ev_rest (eo_is (eo_lcG (fun i => (soL k 0 (ps.take i)).map .int) (wk_enumT (ea_cons (ev_var rfl) ea_nil)) rfl rfl (fun i hi => ?_) fun i d hd => ?_) (?_ : _ = (soL k 0 ps).map PyData.int))) ea_nil) cb_sum))
    · have h1 := soL_len (k := k) (ps.take i) 0
      have h2 := List.length_take_le i ps
      have h3 := List.length_take_le' i ps
      rw [List.length_map]
      omega
    · obtain ⟨x, hx, rfl⟩ := enumD_get hd
      obtain ⟨p, hp, rfl⟩ := map_get hx
      refine ⟨_, _, tg_tup (tgs_cons tg_name (tgs_cons tg_name tgs_nil)) rfl, fun j hj => hj, ?_⟩
      have e := soL_app (k := k) (p := p) (ps.take i) 0
      have hlt := (List.getElem?_eq_some_iff.mp hp).1
      rw [show ps.take i ++ [p] = ps.take (i + 1) by rw [List.take_add_one, hp] <;> rfl, List.length_take, Nat.min_eq_left (Nat.le_of_lt hlt)] at e
      by_cases hk : ((0 + i : Nat) : Int) = k
      · refine .inl ⟨eb_F (ei_ne (ev_var rfl) (ev_var rfl)) (by rw [decide_eq_true hk]; rfl), ?_⟩
        rw [if_pos hk, List.append_nil] at e
        rw [e]
      · refine .inr ⟨_, eb_T (ei_ne (ev_var rfl) (ev_var rfl)) (by rw [decide_eq_false hk]; rfl), ev_op (ev_var rfl) ev_int (od_ixT rfl), ?_⟩
        rw [if_neg hk] at e
        rw [e, List.map_append]
        rfl
    · rw [enumD_length, List.length_map, List.take_length]
/-! ### cutting and joining -/
theorem cut_take {xs : List PyData} {i : Nat} (h : i ≤ xs.length) : cutD xs none (some (i : Int)) = xs.take i := by
  unfold cutD
  rw [HT.sIx_none, HT.sIx_nat, Nat.min_eq_left h]
  simp
theorem cut_drop {xs : List PyData} {i : Nat} (h : i ≤ xs.length) : cutD xs (some (i : Int)) none = xs.drop i := by
  unfold cutD
  rw [HT.sIx_none, HT.sIx_nat, Nat.min_eq_left h]
  rw [List.take_of_length_le (by rw [List.length_drop]; omega)]
theorem set_cut {α : Type} {l : List α} {i : Nat} (h : i < l.length) (a : α) : l.take i ++ [a] ++ l.drop (i + 1) = l.set i a := by
  rw [List.set_eq_take_append_cons_drop, if_pos h, List.append_assoc]
  rfl
theorem ev_splice {K : PySem.W.Frag} {r : Ro} {ta ti : TE} {tm : TA} {xs : List PyData} {d : PyData} {i : Nat} (h : i < xs.length) (hl : xs.length ≤ 1000) (ha : EvD ta r (.tuple xs)) (hi : EvD ti r (.int (i : Int))) (hm : EvA tm r [d]) :
    EvD (tOp (rCatA K) (tOp (rCatA K) (tSl (rSlA K) ta tNoPart (tPart ti)) (tTup tm)) (tSl (rSlA K) ta (tPart (tOp aAdd ti (tC (.int 1)))) tNoPart)) r (.tuple (xs.set i d)) := by
  refine ev_is (ev_op (ev_op (ev_slT ha ep_none (ep_some hi)) (ev_tup hm (len_le rfl)) (od_catT ?_)) (ev_slT ha (ep_some (ei_add hi ev_int)) ep_none) (od_catT ?_)) ?_
  · rw [cut_take (Nat.le_of_lt h), List.length_take]
    show _ + 1 ≤ _
    omega
  · rw [cut_take (Nat.le_of_lt h), show (i : Int) + 1 = ((i + 1 : Nat) : Int) by omega, cut_drop h, List.length_append, List.length_take, List.length_drop]
    show _ + 1 + _ ≤ _
    omega
  · rw [cut_take (Nat.le_of_lt h), show (i : Int) + 1 = ((i + 1 : Nat) : Int) by omega, cut_drop h, set_cut h]
theorem map_set {α β : Type} (f : α → β) (l : List α) (i : Nat) (a : α) : (l.map f).set i (f a) = (l.set i a).map f := by rw [List.map_set]
/-- what make_paper makes of the noise -/
def mkC (q : Int) (text : Str) (A g : Int) (bs : List Int) (i : Nat) (ns : List Tri) : Int := (callV q text A g bs ns - soth (i : Int) ns) % q
def mkP (q : Int) (text : Str) (A g : Int) (bs : List Int) (i : Nat) (x y : Int) (ns : List Tri) (n : Tri) : List Tri :=
  ns.set i (mkC q text A g bs i ns, (n.2.1 + mkC q text A g bs i ns * x) % q, (n.2.2 + mkC q text A g bs i ns * y) % q)
inductive R_make_paper : Con
  | mk {q A g x y b : Int} {text : Str} {bs : List Int} {ns : List Tri} {n : Tri} {i : Nat} : Ord q → text.length ≤ 50000 → bs.length ≤ 100 → ns.length = bs.length → (∀ p ∈ ns, Rg3 q p) → bs[i]? = some b → ns[i]? = some n → n.1 = 0 → Rg q x → Rg q y → G q (dot [b, g] [x, y]) = G q A →
      R_make_paper [.int q, .str text, dCh q A g bs, .int (i : Int), .tuple [.int x, .int y], dPa ns] (.ret (dPa (mkP q text A g bs i x y ns n)))
theorem bd_make_paper {K : PySem.W.Frag} (E : XK) (ds : List PyData) (o : Out) (h : R_make_paper ds o) : Bd K E (t_make_paper K E R_check_maker R_has_form R_call_of R_sum_of_others) (ro N_make_paper ds) o := by
  cases h with
  | @mk q A g x y b text bs ns n i hq ht hb hl hr hbi hni hn0 hx hy he =>
    obtain ⟨c0, n1, n2⟩ := n
    have hn0 : c0 = 0 := hn0
    subst hn0
    have hp := hq.pos
    have h2 := hq.hi
    have hlt := (List.getElem?_eq_some_iff.mp hni).1
    have hc : 0 ≤ mkC q text A g bs i ns ∧ mkC q text A g bs i ns < q := rg_mod hq (callV q text A g bs ns - soth (i : Int) ns)
    refine bd_ret (ex_seq (ex_drop (ev_call (ea_cons (ev_var rfl) (ea_cons (ev_var rfl) (ea_cons (ev_var rfl) (ea_cons (ev_var rfl) ea_nil)))) (.mk hq hbi hx hy he))) (ex_seq (ex_ifF (eb_orF (eb_notF (eb_B (ev_call (ea_cons (ev_var rfl) (ea_cons (ev_var rfl) (ea_cons (ev_var rfl) ea_nil))) (.mk hl hr))))
      (eb_F (ei_ne (ev_op (ev_op (ev_var rfl) (ev_var rfl) (od_ixT (atI_map hni))) ev_int (od_ixT rfl)) ev_int) rfl)) ex_next)
      (ex_seq (ex_set (ei_mod (ei_sub (ev_call (ea_cons (ev_var rfl) (ea_cons (ev_var rfl) (ea_cons (ev_var rfl) (ea_cons (ev_var rfl) ea_nil)))) (.mk hq ht hb hl hr)) (ev_call (ea_cons (ev_var rfl) (ea_cons (ev_var rfl) ea_nil)) (.mk (by omega)))) (ev_var rfl) hp))
      (ex_seq (ex_set (ev_cb (ea_cons (ev_rest (eo_lc [.int ((n1 + mkC q text A g bs i ns * x) % q), .int ((n2 + mkC q text A g bs i ns * y) % q)] (wk_zipT (ea_cons (ev_op (ev_op (ev_var rfl) (ev_var rfl) (od_ixT (atI_map hni))) ev_int (od_ixT rfl)) (ea_cons (ev_var rfl) ea_nil)) rfl) rfl rfl (len_le rfl) fun j d z hd hz => ?_)) ea_nil) cb_tupL))
      (ex_ret (ev_is (ev_splice (i := i) (xs := ns.map dPr) (by rw [List.length_map]; exact hlt) (by rw [List.length_map]; omega) (ev_var rfl) (ev_var rfl) (ea_cons (ev_tup (ea_cons (ev_var rfl) (ea_cons (ev_var rfl) ea_nil)) (len_le rfl)) ea_nil)) ?_))))))
    · obtain ⟨u, v, hu, hv, rfl⟩ := zipD_get hd
      refine ⟨_, _, tg_tup (tgs_cons tg_name (tgs_cons tg_name tgs_nil)) rfl, fun j hj => hj, ?_⟩
      match j, hu, hv, hz with
      | 0, hu, hv, hz =>
        cases hu; cases hv; cases hz
        exact ei_mod (ei_add (ev_var rfl) (ei_mul (ev_var rfl) (ev_var rfl) (mulL (by omega) (by omega)))) (ev_var rfl) hp
      | 1, hu, hv, hz =>
        cases hu; cases hv; cases hz
        exact ei_mod (ei_add (ev_var rfl) (ei_mul (ev_var rfl) (ev_var rfl) (mulL (by omega) (by omega)))) (ev_var rfl) hp
      | j + 2, hu, hv, hz => simp at hz
    · exact congrArg PyData.tuple (map_set dPr ns i (mkC q text A g bs i ns, (n1 + mkC q text A g bs i ns * x) % q, (n2 + mkC q text A g bs i ns * y) % q))
inductive R_check_paper : Con
  | mk {q A g : Int} {text : Str} {bs : List Int} {ps : List Tri} : Ord q → text.length ≤ 50000 → bs.length ≤ 100 → ps.length = bs.length → (∀ p ∈ ps, Rg3 q p) → (soth (-1) ps - callV q text A g bs ps) % q = 0 → R_check_paper [.int q, .str text, dCh q A g bs, dPa ps] (.ret .none)
theorem bd_check_paper {K : PySem.W.Frag} (E : XK) (ds : List PyData) (o : Out) (h : R_check_paper ds o) : Bd K E (t_check_paper K E R_has_form R_sum_of_others R_call_of) (ro N_check_paper ds) o := by
  cases h with
  | @mk q A g text bs ps hq ht hb hl hr hs =>
    exact bd_none (ex_seq (ex_ifF (eb_notF (eb_B (ev_call (ea_cons (ev_var rfl) (ea_cons (ev_var rfl) (ea_cons (ev_var rfl) ea_nil))) (.mk hl hr)))) ex_next) (ex_ifF (eb_F (ei_ne (ei_mod (ei_sub (ev_call (ea_cons (ev_var rfl) (ea_cons (ev_neg ev_int) ea_nil)) (.mk (by omega)))
      (ev_call (ea_cons (ev_var rfl) (ea_cons (ev_var rfl) (ea_cons (ev_var rfl) (ea_cons (ev_var rfl) ea_nil)))) (.mk hq ht hb hl hr))) (ev_var rfl) hq.pos) ev_int) (by rw [decide_eq_true hs]; rfl)) ex_next))
/-- what explain_paper makes of a paper -/
def exP (q : Int) (i : Nat) (x y : Int) (ps : List Tri) (p : Tri) : List Tri := ps.set i (0, (p.2.1 - p.1 * x) % q, (p.2.2 - p.1 * y) % q)
inductive R_explain_paper : Con
  | mk {q A g x y b : Int} {text : Str} {bs : List Int} {ps : List Tri} {p : Tri} {i : Nat} : Ord q → text.length ≤ 50000 → bs.length ≤ 100 → ps.length = bs.length → (∀ p ∈ ps, Rg3 q p) → (soth (-1) ps - callV q text A g bs ps) % q = 0 → bs[i]? = some b → ps[i]? = some p → Rg q x → Rg q y → G q (dot [b, g] [x, y]) = G q A →
      R_explain_paper [.int q, .str text, dCh q A g bs, dPa ps, .int (i : Int), .tuple [.int x, .int y]] (.ret (dPa (exP q i x y ps p)))
theorem bd_explain_paper {K : PySem.W.Frag} (E : XK) (ds : List PyData) (o : Out) (h : R_explain_paper ds o) : Bd K E (t_explain_paper K E R_check_paper R_check_maker) (ro N_explain_paper ds) o := by
  cases h with
  | @mk q A g x y b text bs ps p i hq ht hb hl hr hs hbi hpi hx hy he =>
    have h3 := hr p (List.mem_of_getElem? hpi)
    obtain ⟨c, a1, a2⟩ := p
    obtain ⟨hc, ha1, ha2⟩ := h3
    have hc : 0 ≤ c ∧ c < q := hc
    have hp := hq.pos
    have h2 := hq.hi
    have hlt := (List.getElem?_eq_some_iff.mp hpi).1
    refine bd_ret (ex_seq (ex_drop (ev_call (ea_cons (ev_var rfl) (ea_cons (ev_var rfl) (ea_cons (ev_var rfl) (ea_cons (ev_var rfl) ea_nil)))) (.mk hq ht hb hl hr hs))) (ex_seq (ex_drop (ev_call (ea_cons (ev_var rfl) (ea_cons (ev_var rfl) (ea_cons (ev_var rfl) (ea_cons (ev_var rfl) ea_nil)))) (.mk hq hbi hx hy he)))
      (ex_seq (ex_asg (ev_op (ev_var rfl) (ev_var rfl) (od_ixT (atI_map hpi))) (tg_tup (tgs_cons tg_name (tgs_cons tg_name tgs_nil)) rfl))
      (ex_seq (ex_set (ev_cb (ea_cons (ev_rest (eo_lc [.int ((a1 - c * x) % q), .int ((a2 - c * y) % q)] (wk_zipT (ea_cons (ev_var rfl) (ea_cons (ev_var rfl) ea_nil)) rfl) rfl rfl (len_le rfl) fun j d z hd hz => ?_)) ea_nil) cb_tupL))
      (ex_ret (ev_is (ev_splice (i := i) (xs := ps.map dPr) (by rw [List.length_map]; exact hlt) (by rw [List.length_map]; omega) (ev_var rfl) (ev_var rfl) (ea_cons (ev_tup (ea_cons ev_int (ea_cons (ev_var rfl) ea_nil)) (len_le rfl)) ea_nil)) ?_))))))
    · obtain ⟨u, v, hu, hv, rfl⟩ := zipD_get hd
      refine ⟨_, _, tg_tup (tgs_cons tg_name (tgs_cons tg_name tgs_nil)) rfl, fun j hj => hj, ?_⟩
      match j, hu, hv, hz with
      | 0, hu, hv, hz =>
        cases hu; cases hv; cases hz
        exact ei_mod (ei_sub (ev_var rfl) (ei_mul (ev_var rfl) (ev_var rfl) (mulL (by omega) (by omega)))) (ev_var rfl) hp
      | 1, hu, hv, hz =>
        cases hu; cases hv; cases hz
        exact ei_mod (ei_sub (ev_var rfl) (ei_mul (ev_var rfl) (ev_var rfl) (mulL (by omega) (by omega)))) (ev_var rfl) hp
      | j + 2, hu, hv, hz => simp at hz
    · exact congrArg PyData.tuple (map_set dPr ps i (0, (a1 - c * x) % q, (a2 - c * y) % q))
end Ck

/-! What the defs of pairs, passes, issuing, spends and tickets hand back. -/
namespace Ck
open PySem PySem.Spec PyProof.Rows L2

/-! ### pairs -/
abbrev Pr : Type := Int × Int
def dPair (p : Pr) : PyData := .tuple [.int p.1, .int p.2]
def dPs (ps : List Pr) : PyData := .list (ps.map dPair)
def PrOk (p : Pr) : Prop := (0 ≤ p.1 ∧ p.1 < 5) ∧ (0 ≤ p.2 ∧ p.2 < 5)
def ixP (p : Pr) : Int := 5 * p.1 + p.2
inductive R_is_pair : Con
  | mk {p : Pr} : PrOk p → R_is_pair [dPair p] (.ret (.bool true))
theorem chain2 {a b : Bool} (ha : a = true) (hb : b = true) : (a && b) = true := by rw [ha, hb] <;> rfl
theorem bd_is_pair {K : PySem.W.Frag} (E : XK) (ds : List PyData) (o : Out) (h : R_is_pair ds o) : Bd K E (t_is_pair K E) (ro N_is_pair ds) o := by
  cases h with
  | @mk p hp =>
    obtain ⟨⟨h1, h2⟩, h3, h4⟩ := hp
    exact bd_ret (ex_ret (ev_andT (ev_is (ei_eq (ev_cb (ea_cons (ev_var rfl) ea_nil) cb_lenT) ev_int) rfl) (ev_andT (ev_is (ev_chain ev_int (ev_op (ev_var rfl) ev_int (od_ixT rfl)) ev_int) (congrArg PyData.bool (chain2 (decide_eq_true h1) (decide_eq_true h2)))) (ev_is (ev_chain ev_int (ev_op (ev_var rfl) ev_int (od_ixT rfl)) ev_int) (congrArg PyData.bool (chain2 (decide_eq_true h3) (decide_eq_true h4)))))))
inductive R_index_of : Con
  | mk {p : Pr} : PrOk p → R_index_of [dPair p] (.ret (.int (ixP p)))
theorem bd_index_of {K : PySem.W.Frag} (E : XK) (ds : List PyData) (o : Out) (h : R_index_of ds o) : Bd K E (t_index_of K E R_is_pair) (ro N_index_of ds) o := by
  cases h with
  | @mk p hp => exact bd_ret (ex_seq (ex_ifF (eb_notF (eb_B (ev_call (ea_cons (ev_var rfl) ea_nil) (.mk hp)))) ex_next) (ex_ret (ei_add (ei_mul ev_int (ev_op (ev_var rfl) ev_int (od_ixT rfl)) (mulL (by decide) (by decide))) (ev_op (ev_var rfl) ev_int (od_ixT rfl)))))
def SetOk (ps : List Pr) : Prop := (∀ p ∈ ps, PrOk p) ∧ ps.Pairwise fun p q => ixP p < ixP q
def lastI (ps : List Pr) : Nat → Int
  | 0 => -1
  | i + 1 => ixP (ps.getD i (0, 0))
inductive R_check_set : Con
  | mk {ps : List Pr} : SetOk ps → R_check_set [dPs ps] (.ret .none)
theorem bd_check_set {K : PySem.W.Frag} (E : XK) (ds : List PyData) (o : Out) (h : R_check_set ds o) : Bd K E (t_check_set K E R_index_of) (ro N_check_set ds) o := by
  cases h with
  | @mk ps hs =>
    obtain ⟨h1, h2⟩ := hs
    refine bd_none (ex_seq (ex_set (ev_neg ev_int)) (ex_for (fun i => [.dat (dPs ps), .dat (.int (lastI ps i)), .no, .no]) (ws_list (ev_var rfl)) rfl fun i d hd => ?_))
    obtain ⟨p, hp, rfl⟩ := map_get hd
    have hlt := (List.getElem?_eq_some_iff.mp hp).1
    have hpi : ps.getD i (0, 0) = p := by rw [List.getD_eq_getElem?_getD, hp] <;> rfl
    have hok := h1 p (List.mem_of_getElem? hp)
    have hl : ¬ ixP p ≤ lastI ps i := by
      cases i with
      | zero =>
        obtain ⟨⟨a, b⟩, c, d⟩ := hok
        show ¬ 5 * p.1 + p.2 ≤ -1
        omega
      | succ i =>
        have hi : i < ps.length := by omega
        have e : ps.getD i (0, 0) = ps[i] := by rw [List.getD_eq_getElem?_getD, List.getElem?_eq_getElem hi] <;> rfl
        have e2 : ps[i + 1] = p := (List.getElem?_eq_some_iff.mp hp).2
        show ¬ ixP p ≤ ixP (ps.getD i (0, 0))
        rw [e, ← e2]
        have := List.pairwise_iff_getElem.mp h2 i (i + 1) hi hlt (Nat.lt_succ_self i)
        omega
    refine ⟨_, _, tg_name, ex_forget 3 (ex_forget 2 (ex_seq (ex_set (ev_call (ea_cons (ev_var rfl) ea_nil) (.mk hok)))
      (ex_seq (ex_ifF (eb_F (ei_le (ev_var rfl) (ev_var rfl)) (decide_eq_false hl)) ex_next)
      (ex_set (ev_var rfl)))) rfl) ?_⟩
    show [Sl.dat (dPs ps), .dat (.int (ixP p)), .no, .no] = [.dat (dPs ps), .dat (.int (ixP (ps.getD i (0, 0)))), .no, .no]
    rw [hpi]

/-! ### people -/
inductive R_is_exponent_passes : Con
  | mk {q n : Int} : R_is_exponent_passes [.int q, .int n] (.ret (.bool (decide (0 ≤ n) && decide (n < q))))
theorem bd_is_exponent_passes {K : PySem.W.Frag} (E : XK) (ds : List PyData) (o : Out) (h : R_is_exponent_passes ds o) : Bd K E (t_is_exponent_passes K E) (ro N_is_exponent_passes ds) o := by
  cases h with
  | mk => exact bd_ret (ex_ret (ev_chain ev_int (ev_var rfl) (ev_var rfl)))
theorem R_is_exponent_passes.yes {q x : Int} (h : Rg q x) : R_is_exponent_passes [.int q, .int x] (.ret (.bool true)) := by
  have e : R_is_exponent_passes [.int q, .int x] (.ret (.bool (decide (0 ≤ x) && decide (x < q)))) := .mk
  rw [rg_dec h] at e
  exact e
/-- a person: number, age, zone -/
def dPn (p : Tri) : PyData := .tuple [.int p.1, .int p.2.1, .int p.2.2]
def PnOk (q : Int) (p : Tri) : Prop := Rg q p.1 ∧ PrOk p.2
inductive R_check_person : Con
  | mk {q : Int} {a : Nat → Int} {p : Tri} : PnOk q p → R_check_person [dSet q a, dPn p] (.ret .none)
theorem bd_check_person {K : PySem.W.Frag} (E : XK) (ds : List PyData) (o : Out) (h : R_check_person ds o) : Bd K E (t_check_person K E R_is_exponent_passes) (ro N_check_person ds) o := by
  cases h with
  | @mk q a p hp =>
    obtain ⟨h0, ⟨h1, h2⟩, h3, h4⟩ := hp
    exact bd_none (ex_seq (ex_asg (ev_var rfl) (tg_tup (tgs_cons tg_name (tgs_cons tg_name (tgs_cons tg_name tgs_nil))) rfl)) (ex_ifF (eb_orF (eb_notF (eb_B (ev_call (ea_cons (ev_op (ev_var rfl) ev_int (od_ixT rfl)) (ea_cons (ev_var rfl) ea_nil)) (.yes h0)))) (eb_orF (eb_notF (eb_T (ev_chain ev_int (ev_var rfl) ev_int) (chain2 (decide_eq_true h1) (decide_eq_true (by omega)))))
      (eb_notF (eb_T (ev_chain ev_int (ev_var rfl) ev_int) (chain2 (decide_eq_true h3) (decide_eq_true (by omega))))))) ex_next))
/-- the mark's logarithm -/
def mk (a : Nat → Int) (p : Tri) : Int := dot [a 1, a 2, a 3, a 4] [1, p.1, p.2.1, p.2.2]
theorem drop1 {x : PyData} {xs : List PyData} : cutD (x :: xs) (some 1) none = xs := by
  have := cut_drop (xs := x :: xs) (i := 1) (by simp)
  exact this
inductive R_plain_mark : Con
  | mk {q : Int} {a : Nat → Int} {p : Tri} : Ord q → R_plain_mark [dSet q a, dPn p] (.ret (.int (G q (mk a p))))
theorem bd_plain_mark {K : PySem.W.Frag} (E : XK) (ds : List PyData) (o : Out) (h : R_plain_mark ds o) : Bd K E (t_plain_mark K E R_product_of_powers) (ro N_plain_mark ds) o := by
  cases h with
  | @mk q a p hq =>
    exact bd_ret (ex_seq (ex_asg (ev_var rfl) (tg_tup (tgs_cons tg_name (tgs_cons tg_name tgs_nil)) rfl)) (ex_ret (ev_call (ea_cons (ev_var rfl) (ea_cons (ev_rest (eo_cb (ea_cons (ev_is (ev_slT (ev_var rfl) (ep_some ev_int) ep_none) (congrArg PyData.tuple drop1)) ea_nil) co_listT)) (ea_cons (ev_rest (eo_op (ev_rest (eo_lst (ea_cons ev_int ea_nil) (len_le rfl))) (ev_rest (eo_cb (ea_cons (ev_var rfl) ea_nil) co_listT)) (oo_cat (Nat.le_of_ble_eq_true rfl)))) ea_nil)))
      (.mk (ks := [a 1, a 2, a 3, a 4]) (es := [1, p.1, p.2.1, p.2.2]) hq rfl))))
inductive R_mark_of : Con
  | mk {q : Int} {a : Nat → Int} {p : Tri} : Ord q → PnOk q p → mk a p % q ≠ 0 → R_mark_of [dSet q a, dPn p] (.ret (.int (G q (mk a p))))
  | mkX {q : Int} {a : Nat → Int} {p : Tri} : Ord q → PnOk q p → mk a p % q = 0 → R_mark_of [dSet q a, dPn p] (.exc "NotAllowed")
theorem G_ne1 {q k : Int} (h : Ord q) (hk : k % q ≠ 0) : ¬ G q k = 1 := fun e => hk (G_one h e)
theorem G_is1 {q k : Int} (h : Ord q) (hk : k % q = 0) : G q k = 1 := by
  rw [← G_zero h]
  exact G_eq (by rw [hk, Int.zero_emod])
theorem bd_mark_of {K : PySem.W.Frag} (E : XK) (ds : List PyData) (o : Out) (h : R_mark_of ds o) : Bd K E (t_mark_of K E R_check_person R_plain_mark) (ro N_mark_of ds) o := by
  cases h with
  | @mk q a p hq hp hm => exact bd_ret (ex_seq (ex_drop (ev_call (ea_cons (ev_var rfl) (ea_cons (ev_var rfl) ea_nil)) (.mk hp)))
      (ex_seq (ex_set (ev_call (ea_cons (ev_var rfl) (ea_cons (ev_var rfl) ea_nil)) (.mk hq)))
      (ex_seq (ex_ifF (eb_F (ei_eq (ev_var rfl) ev_int) (decide_eq_false (G_ne1 hq hm))) ex_next)
      (ex_ret (ev_var rfl)))))
  | @mkX q a p hq hp hm => exact bd_exc (ex_seq (ex_drop (ev_call (ea_cons (ev_var rfl) (ea_cons (ev_var rfl) ea_nil)) (.mk hp)))
      (ex_seq (ex_set (ev_call (ea_cons (ev_var rfl) (ea_cons (ev_var rfl) ea_nil)) (.mk hq)))
      (ex_stop (ex_ifT (eb_T (ei_eq (ev_var rfl) ev_int) (decide_eq_true (G_is1 hq hm))) ex_tRaise) trivial)))

/-! ### issuing -/
inductive R_check_secret : Con
  | mk {q x : Int} {a : Nat → Int} : 1 ≤ x → x < q → R_check_secret [dSet q a, .int x] (.ret .none)
theorem bd_check_secret {K : PySem.W.Frag} (E : XK) (ds : List PyData) (o : Out) (h : R_check_secret ds o) : Bd K E (t_check_secret K E) (ro N_check_secret ds) o := by
  cases h with
  | mk h1 h2 => exact bd_none (ex_ifF (eb_notF (eb_T (ev_chain ev_int (ev_var rfl) (ev_op (ev_var rfl) ev_int (od_ixT rfl))) (chain2 (decide_eq_true h1) (decide_eq_true h2)))) ex_next)
inductive R_check_exponents : Con
  | mk {q : Int} {a : Nat → Int} {xs : List Int} : (∀ x ∈ xs, Rg q x) → xs.length ≤ 1000 → R_check_exponents [dSet q a, .list (xs.map .int)] (.ret .none)
theorem bd_check_exponents {K : PySem.W.Frag} (E : XK) (ds : List PyData) (o : Out) (h : R_check_exponents ds o) : Bd K E (t_check_exponents K E R_is_exponent_passes) (ro N_check_exponents ds) o := by
  cases h with
  | @mk q a xs hx hl =>
    refine bd_none (ex_ifF (eb_notF (eb_B (ev_allT (n := xs.length) (eo_lc _ (ws_list (ev_var rfl)) rfl (by simp) (by simp; omega) fun i d z hd hz => ?_)))) ex_next)
    cases rep_get hz
    obtain ⟨x, h1, rfl⟩ := map_get hd
    exact ⟨_, _, tg_name, fun j hj => hj, ev_call (ea_cons (ev_op (ev_var rfl) ev_int (od_ixT rfl)) (ea_cons (ev_var rfl) ea_nil)) (.yes (hx x (List.mem_of_getElem? h1)))⟩
/-- a blinding -/
structure Bl where
  s : Int
  u : Int
  v : Int
  x0 : Int
  x1 : Int
  x2 : Int
  x3 : Int
def dBl (b : Bl) : PyData := .tuple [.int b.s, .int b.u, .int b.v, .tuple [.int b.x0, .int b.x1, .int b.x2, .int b.x3]]
structure BlOk (q : Int) (b : Bl) : Prop where
  s : Rg q b.s
  s0 : b.s ≠ 0
  u : Rg q b.u
  u0 : b.u ≠ 0
  v : Rg q b.v
  x0 : Rg q b.x0
  x1 : Rg q b.x1
  x2 : Rg q b.x2
  x3 : Rg q b.x3
inductive R_check_blinding : Con
  | mk {q : Int} {a : Nat → Int} {b : Bl} : BlOk q b → R_check_blinding [dSet q a, dBl b] (.ret .none)
theorem bd_check_blinding {K : PySem.W.Frag} (E : XK) (ds : List PyData) (o : Out) (h : R_check_blinding ds o) : Bd K E (t_check_blinding K E R_check_exponents) (ro N_check_blinding ds) o := by
  cases h with
  | @mk q a b hb =>
    refine bd_none (ex_seq (ex_asg (ev_var rfl) (tg_tup (tgs_cons tg_name (tgs_cons tg_name (tgs_cons tg_name (tgs_cons tg_name tgs_nil)))) rfl))
      (ex_seq (ex_drop (ev_call (ea_cons (ev_var rfl) (ea_cons (ev_rest (eo_op (ev_rest (eo_lst (ea_cons (ev_var rfl) (ea_cons (ev_var rfl) (ea_cons (ev_var rfl) ea_nil))) (len_le rfl))) (ev_rest (eo_cb (ea_cons (ev_var rfl) ea_nil) co_listT)) (oo_cat (Nat.le_of_ble_eq_true rfl)))) ea_nil)) (.mk (xs := [b.s, b.u, b.v, b.x0, b.x1, b.x2, b.x3]) ?_ (Nat.le_of_ble_eq_true rfl))))
      (ex_ifF (eb_orF (eb_F (ei_eq (ev_var rfl) ev_int) (decide_eq_false hb.s0)) (eb_F (ei_eq (ev_var rfl) ev_int) (decide_eq_false hb.u0))) ex_next)))
    intro x hx
    simp only [List.mem_cons, List.not_mem_nil, or_false] at hx
    rcases hx with rfl | rfl | rfl | rfl | rfl | rfl | rfl
    · exact hb.s
    · exact hb.u
    · exact hb.v
    · exact hb.x0
    · exact hb.x1
    · exact hb.x2
    · exact hb.x3
inductive R_key_of : Con
  | mk {q x : Int} {a : Nat → Int} : Ord q → 1 ≤ x → x < q → R_key_of [dSet q a, .int x] (.ret (.int (G q (a 0 * x))))
theorem bd_key_of {K : PySem.W.Frag} (E : XK) (ds : List PyData) (o : Out) (h : R_key_of ds o) : Bd K E (t_key_of K E R_check_secret R_power) (ro N_key_of ds) o := by
  cases h with
  | mk hq h1 h2 => exact bd_ret (ex_seq (ex_drop (ev_call (ea_cons (ev_var rfl) (ea_cons (ev_var rfl) ea_nil)) (.mk h1 h2))) (ex_ret (ev_call (ea_cons (ev_op (ev_var rfl) ev_int (od_ixT rfl)) (ea_cons (ev_op (ev_op (ev_var rfl) ev_int (od_ixT rfl)) ev_int (od_ixT rfl)) (ea_cons (ev_var rfl) ea_nil))) (.mk hq))))
/-- an offer, by logarithms -/
def dOf (q : Int) (f : Tri) : PyData := .tuple [.int (G q f.1), .int (G q f.2.1), .int (G q f.2.2)]
def ofr (a : Nat → Int) (x : Int) (p : Tri) (w : Int) : Tri := (mk a p * x, a 0 * w, mk a p * w)
inductive R_offer_of : Con
  | mk {q x w : Int} {a : Nat → Int} {p : Tri} : Ord q → 1 ≤ x → x < q → PnOk q p → mk a p % q ≠ 0 → Rg q w → R_offer_of [dSet q a, .int x, dPn p, .int w] (.ret (dOf q (ofr a x p w)))
theorem bd_offer_of {K : PySem.W.Frag} (E : XK) (ds : List PyData) (o : Out) (h : R_offer_of ds o) : Bd K E (t_offer_of K E R_check_secret R_check_exponents R_mark_of R_power) (ro N_offer_of ds) o := by
  cases h with
  | @mk q x w a p hq h1 h2 hp hm hw =>
    exact bd_ret (ex_seq (ex_drop (ev_call (ea_cons (ev_var rfl) (ea_cons (ev_var rfl) ea_nil)) (.mk h1 h2)))
      (ex_seq (ex_drop (ev_call (ea_cons (ev_var rfl) (ea_cons (ev_rest (eo_lst (ea_cons (ev_var rfl) ea_nil) (len_le rfl))) ea_nil)) (.mk (xs := [w]) (fun y hy => by rw [List.mem_singleton.mp hy]; exact hw) (Nat.le_of_ble_eq_true rfl))))
      (ex_seq (ex_set (ev_call (ea_cons (ev_var rfl) (ea_cons (ev_var rfl) ea_nil)) (.mk hq hp hm)))
      (ex_seq (ex_set (ev_op (ev_var rfl) ev_int (od_ixT rfl)))
      (ex_ret (ev_tup (ea_cons (ev_call (ea_cons (ev_var rfl) (ea_cons (ev_var rfl) (ea_cons (ev_var rfl) ea_nil))) (.mk hq)) (ea_cons (ev_call (ea_cons (ev_var rfl) (ea_cons (ev_op (ev_op (ev_var rfl) ev_int (od_ixT rfl)) ev_int (od_ixT rfl)) (ea_cons (ev_var rfl) ea_nil))) (.mk hq)) (ea_cons (ev_call (ea_cons (ev_var rfl) (ea_cons (ev_var rfl) (ea_cons (ev_var rfl) ea_nil))) (.mk hq)) ea_nil))) (len_le rfl)))))))
/-- a ticket, its first five numbers by logarithms -/
structure Tk where
  A : Int
  B : Int
  z : Int
  a : Int
  b : Int
  r : Int
def dTk5 (q : Int) (t : Tk) : PyData := .tuple [.int (G q t.A), .int (G q t.B), .int (G q t.z), .int (G q t.a), .int (G q t.b)]
def dTk (q : Int) (t : Tk) : PyData := .tuple [.int (G q t.A), .int (G q t.B), .int (G q t.z), .int (G q t.a), .int (G q t.b), .int t.r]
def nTk (q : Int) (t : Tk) : List Int := [G q t.A, G q t.B, G q t.z, G q t.a, G q t.b]
/-- the ticket of a session -/
def hid (a : Nat → Int) (p : Tri) (f : Tri) (b : Bl) (r : Int) : Tk :=
  ⟨mk a p * b.s, dot [a 1, a 2, a 3, a 4] [b.x0, b.x1, b.x2, b.x3], f.1 * b.s, f.2.1 * b.u + a 0 * b.v, f.2.2 * (b.s * b.u) + mk a p * b.s * b.v, r⟩
end Ck

/-! What the defs of pairs, passes, issuing, spends and tickets hand back. -/
namespace Ck
open PySem PySem.Spec PyProof.Rows L2
inductive R_hidden : Con
  | mk {q r : Int} {a : Nat → Int} {p f : Tri} {b : Bl} : Ord q → PnOk q p → mk a p % q ≠ 0 → f.1 % q ≠ 0 → BlOk q b → R_hidden [dSet q a, dPn p, dOf q f, dBl b] (.ret (dTk5 q (hid a p f b r)))
theorem bd_hidden {K : PySem.W.Frag} (E : XK) (ds : List PyData) (o : Out) (h : R_hidden ds o) : Bd K E (t_hidden K E R_mark_of R_is_element R_check_blinding R_power R_product_of_powers R_product) (ro N_hidden ds) o := by
  cases h with
  | @mk q r a p f b hq hp hm hf hb =>
    have h1 := hq.lo
    have h2 := hq.hi
    obtain ⟨hs1, hs2⟩ := hb.s
    refine bd_ret (ex_seq (ex_set (ev_call (ea_cons (ev_var rfl) (ea_cons (ev_var rfl) ea_nil)) (.mk hq hp hm)))
      (ex_seq (ex_asg (ev_var rfl) (tg_tup (tgs_cons tg_name (tgs_cons tg_name tgs_nil)) rfl))
      (ex_seq (ex_ifF (eb_orF (eb_notF (eb_B (ev_allT (n := 3) (eo_lc _ (ws_tup (ev_var rfl)) rfl rfl (len_le rfl) fun i d z hd hz => ?_)))) (eb_F (ei_eq (ev_op (ev_var rfl) ev_int (od_ixT rfl)) ev_int) (decide_eq_false (G_ne1 hq hf)))) ex_next)
      (ex_seq (ex_drop (ev_call (ea_cons (ev_var rfl) (ea_cons (ev_var rfl) ea_nil)) (.mk hb)))
      (ex_seq (ex_asg (ev_var rfl) (tg_tup (tgs_cons tg_name (tgs_cons tg_name (tgs_cons tg_name tgs_nil))) rfl))
      (ex_seq (ex_asg (ev_var rfl) (tg_tup (tgs_cons tg_name (tgs_cons tg_name (tgs_cons tg_name (tgs_cons tg_name tgs_nil)))) rfl))
      ?g2))))))
    rotate_left
    simp only [ro, List.map_cons, List.map_nil, List.length_cons, List.length_nil, Nat.reduceAdd, Nat.reduceSub, List.replicate_succ, List.replicate_zero, List.cons_append, List.nil_append, List.set_cons_succ, List.set_cons_zero]
    exact (ex_seq (ex_set (ev_call (ea_cons (ev_var rfl) (ea_cons (ev_var rfl) (ea_cons (ev_var rfl) ea_nil))) (.mk hq)))
      (ex_seq (ex_set (ev_call (ea_cons (ev_var rfl) (ea_cons (ev_rest (eo_cb (ea_cons (ev_is (ev_slT (ev_var rfl) (ep_some ev_int) ep_none) (congrArg PyData.tuple drop1)) ea_nil) co_listT)) (ea_cons (ev_rest (eo_cb (ea_cons (ev_var rfl) ea_nil) co_listT)) ea_nil))) (.mk (ks := [a 1, a 2, a 3, a 4]) (es := [b.x0, b.x1, b.x2, b.x3]) hq rfl)))
      (ex_seq (ex_set (ev_call (ea_cons (ev_var rfl) (ea_cons (ev_call (ea_cons (ev_var rfl) (ea_cons (ev_var rfl) (ea_cons (ev_var rfl) ea_nil))) (.mk hq)) (ea_cons (ev_call (ea_cons (ev_var rfl) (ea_cons (ev_op (ev_var rfl) ev_int (od_ixT rfl)) (ea_cons (ev_var rfl) ea_nil))) (.mk hq)) ea_nil))) (.mk hq)))
      (ex_seq (ex_set (ev_call (ea_cons (ev_var rfl) (ea_cons (ev_call (ea_cons (ev_var rfl) (ea_cons (ev_var rfl) (ea_cons (ei_mul (ev_var rfl) (ev_var rfl) (mulL (by omega) (by omega))) ea_nil))) (.mk hq)) (ea_cons (ev_call (ea_cons (ev_var rfl) (ea_cons (ev_var rfl) (ea_cons (ev_var rfl) ea_nil))) (.mk hq)) ea_nil))) (.mk hq)))
      (ex_ret (ev_tup (ea_cons (ev_var rfl) (ea_cons (ev_var rfl) (ea_cons (ev_call (ea_cons (ev_var rfl) (ea_cons (ev_var rfl) (ea_cons (ev_var rfl) ea_nil))) (.mk hq)) (ea_cons (ev_var rfl) (ea_cons (ev_var rfl) ea_nil))))) (len_le rfl)))))))
    cases rep_get hz
    refine ⟨_, _, tg_name, fun j hj => hj, ?_⟩
    match i, hd with
    | 0, hd => cases hd; exact ev_call (ea_cons (ev_var rfl) (ea_cons (ev_var rfl) ea_nil)) (.mk hq)
    | 1, hd => cases hd; exact ev_call (ea_cons (ev_var rfl) (ea_cons (ev_var rfl) ea_nil)) (.mk hq)
    | 2, hd => cases hd; exact ev_call (ea_cons (ev_var rfl) (ea_cons (ev_var rfl) ea_nil)) (.mk hq)
    | i + 3, hd => simp at hd
inductive R_challenge_for : Con
  | mk {q : Int} {t : Tk} : Ord q → R_challenge_for [.int q, dTk5 q t] (.ret (.int (chal q "ticket" (nTk q t))))
theorem ticket_len : ("ticket" : Str).length = 6 := by decide +kernel
theorem sm_nTk {q : Int} (h : Ord q) (t : Tk) : Sm (nTk q t) := by
  intro n hn
  unfold nTk at hn
  simp only [List.mem_cons, List.not_mem_nil, or_false] at hn
  rcases hn with rfl | rfl | rfl | rfl | rfl <;> exact sm_G h _
theorem bd_challenge_for {K : PySem.W.Frag} (E : XK) (ds : List PyData) (o : Out) (h : R_challenge_for ds o) : Bd K E (t_challenge_for K E R_challenge_of) (ro N_challenge_for ds) o := by
  cases h with
  | @mk q t hq => exact bd_ret (ex_ret (ev_call (ea_cons (ev_var rfl) (ea_cons ev_str (ea_cons (ev_rest (eo_cb (ea_cons (ev_var rfl) ea_nil) co_listT)) ea_nil))) (.mk (ns := nTk q t) hq (by rw [ticket_len]; decide) (by show 5 ≤ 10000; decide) (sm_nTk hq t))))
/-- the inner challenge of a ticket -/
def c1 (q : Int) (t : Tk) : Int := chal q "ticket" (nTk q t)
theorem c1_lo {q : Int} (h : Ord q) (t : Tk) : 1 ≤ c1 q t := chal_lo h _ _
theorem c1_hi {q : Int} (h : Ord q) (t : Tk) : c1 q t < q := chal_hi h _ _
theorem c1_r (q : Int) (a : Nat → Int) (p f : Tri) (b : Bl) (r r' : Int) : c1 q (hid a p f b r) = c1 q (hid a p f b r') := rfl
/-- what the person sends -/
def rqs (q : Int) (a : Nat → Int) (p f : Tri) (b : Bl) : Int := quo q (c1 q (hid a p f b 0)) b.u
inductive R_request_of : Con
  | mk {q : Int} {a : Nat → Int} {p f : Tri} {b : Bl} : Ord q → PnOk q p → mk a p % q ≠ 0 → f.1 % q ≠ 0 → BlOk q b → R_request_of [dSet q a, dPn p, dOf q f, dBl b] (.ret (.int (rqs q a p f b)))
theorem rg_ne {q x : Int} (h : Rg q x) (h0 : x ≠ 0) : x % q ≠ 0 := by
  rw [Int.emod_eq_of_lt h.1 h.2]
  exact h0
theorem bd_request_of {K : PySem.W.Frag} (E : XK) (ds : List PyData) (o : Out) (h : R_request_of ds o) : Bd K E (t_request_of K E R_hidden R_challenge_for R_quotient) (ro N_request_of ds) o := by
  cases h with
  | @mk q a p f b hq hp hm hf hb =>
    have h1 := hq.lo
    have h2 := hq.hi
    have hu := hb.u
    obtain ⟨hu1, hu2⟩ := hu
    exact bd_ret (ex_seq (ex_set (ev_op (ev_var rfl) ev_int (od_ixT rfl)))
      (ex_seq (ex_set (ev_call (ea_cons (ev_var rfl) (ea_cons (ev_var rfl) (ea_cons (ev_var rfl) (ea_cons (ev_var rfl) ea_nil)))) (.mk (r := 0) hq hp hm hf hb)))
      (ex_ret (ev_call (ea_cons (ev_var rfl) (ea_cons (ev_call (ea_cons (ev_var rfl) (ea_cons (ev_var rfl) ea_nil)) (.mk hq)) (ea_cons (ev_op (ev_var rfl) ev_int (od_ixT rfl)) ea_nil))) (.mk hq (by omega) (by omega) (rg_ne hb.u hb.u0))))))
inductive R_grant_of : Con
  | mk {q x w c : Int} {a : Nat → Int} : Ord q → 1 ≤ x → x < q → Rg q w → Rg q c → R_grant_of [dSet q a, .int x, .int w, .int c] (.ret (.int ((w + c * x) % q)))
theorem bd_grant_of {K : PySem.W.Frag} (E : XK) (ds : List PyData) (o : Out) (h : R_grant_of ds o) : Bd K E (t_grant_of K E R_check_secret R_check_exponents) (ro N_grant_of ds) o := by
  cases h with
  | @mk q x w c a hq h1 h2 hw hc =>
    have h3 := hq.hi
    obtain ⟨hc1, hc2⟩ := id hc
    exact bd_ret (ex_seq (ex_drop (ev_call (ea_cons (ev_var rfl) (ea_cons (ev_var rfl) ea_nil)) (.mk h1 h2)))
      (ex_seq (ex_drop (ev_call (ea_cons (ev_var rfl) (ea_cons (ev_rest (eo_lst (ea_cons (ev_var rfl) (ea_cons (ev_var rfl) ea_nil)) (len_le rfl))) ea_nil)) (.mk (xs := [w, c]) (fun y hy => by
      simp only [List.mem_cons, List.not_mem_nil, or_false] at hy
      rcases hy with rfl | rfl
      · exact hw
      · exact hc) (Nat.le_of_ble_eq_true rfl))))
      (ex_ret (ei_mod (ei_add (ev_var rfl) (ei_mul (ev_var rfl) (ev_var rfl) (mulL (by omega) (by omega)))) (ev_op (ev_var rfl) ev_int (od_ixT rfl)) hq.pos))))
inductive R_is_granted : Con
  | mk {q m r f s c : Int} : Ord q → R_is_granted [.int q, .int (G q m), .int r, .int (G q f), .int (G q s), .int c] (.ret (.bool (decide (G q (m * r) = G q (f + s * c)))))
theorem bd_is_granted {K : PySem.W.Frag} (E : XK) (ds : List PyData) (o : Out) (h : R_is_granted ds o) : Bd K E (t_is_granted K E R_power R_product) (ro N_is_granted ds) o := by
  cases h with
  | mk hq => exact bd_ret (ex_ret (ei_eq (ev_call (ea_cons (ev_var rfl) (ea_cons (ev_var rfl) (ea_cons (ev_var rfl) ea_nil))) (.mk hq)) (ev_call (ea_cons (ev_var rfl) (ea_cons (ev_var rfl) (ea_cons (ev_call (ea_cons (ev_var rfl) (ea_cons (ev_var rfl) (ea_cons (ev_var rfl) ea_nil))) (.mk hq)) ea_nil))) (.mk hq))))
/-- both checks of step 4 -/
def grd (q : Int) (a : Nat → Int) (p f : Tri) (h r c : Int) : Bool := decide (G q (a 0 * r) = G q (f.2.1 + h * c)) && decide (G q (mk a p * r) = G q (f.2.2 + f.1 * c))
def tkt (q : Int) (a : Nat → Int) (p f : Tri) (b : Bl) (r : Int) : Tk := hid a p f b ((b.u * r + b.v) % q)
inductive R_ticket_of : Con
  | mk {q h r : Int} {a : Nat → Int} {p f : Tri} {b : Bl} : Ord q → PnOk q p → mk a p % q ≠ 0 → f.1 % q ≠ 0 → BlOk q b → Rg q r → grd q a p f h r (rqs q a p f b) = true → R_ticket_of [dSet q a, .int (G q h), dPn p, dOf q f, dBl b, .int r] (.ret (dTk q (tkt q a p f b r)))
  | mkX {q h r : Int} {a : Nat → Int} {p f : Tri} {b : Bl} : Ord q → PnOk q p → mk a p % q ≠ 0 → f.1 % q ≠ 0 → BlOk q b → Rg q r → grd q a p f h r (rqs q a p f b) = false → R_ticket_of [dSet q a, .int (G q h), dPn p, dOf q f, dBl b, .int r] (.exc "BadPaper")
theorem bd_ticket_of {K : PySem.W.Frag} (E : XK) (ds : List PyData) (o : Out) (h : R_ticket_of ds o) : Bd K E (t_ticket_of K E R_hidden R_check_exponents R_challenge_for R_quotient R_is_granted R_mark_of) (ro N_ticket_of ds) o := by
  have pre : ∀ {q h r : Int} {a : Nat → Int} {p f : Tri} {b : Bl} {o : Res} {u : TS}, Ord q → PnOk q p → mk a p % q ≠ 0 → f.1 % q ≠ 0 → BlOk q b → Rg q r →
      ExS K (WD E) u [.dat (dSet q a), .dat (.int (G q h)), .dat (dPn p), .dat (dOf q f), .dat (dBl b), .dat (.int r), .dat (dTk5 q (hid a p f b 0)), .dat (.int (rqs q a p f b)), .dat (.int q), .dat (.tuple [.int (G q (a 0)), .int (G q (a 1)), .int (G q (a 2)), .int (G q (a 3)), .int (G q (a 4))]), .dat (.int (G q f.1)), .dat (.int (G q f.2.1)), .dat (.int (G q f.2.2))] o →
      ExS K (WD E) (tSeq (tAsg (tCallS (spD K R_hidden) (WE W0) (tCons (tVar 0) (tCons (tVar 2) (tCons (tVar 3) (tCons (tVar 4) tNil))))) (gName 6)) (tSeq (tDrop (tCallS (spD K R_check_exponents) (WE W0) (tCons (tVar 0) (tCons (tLst (tCons (tVar 5) tNil)) tNil)))) (tSeq (tAsg (tVar 0) (gTup K 2 (gCons (gName 8) (gCons (gName 9) gNil)))) (tSeq (tAsg (tVar 3) (gTup K 3 (gCons (gName 10) (gCons (gName 11) (gCons (gName 12) gNil))))) (tSeq (tAsg (tCallS (spD K R_quotient) (WE W0) (tCons (tVar 8) (tCons (tCallS (spD K R_challenge_for) (WE W0) (tCons (tVar 8) (tCons (tVar 6) tNil))) (tCons (tOp (rIx K) (tVar 4) (tC (.int 1))) tNil)))) (gName 7)) u)))))
        (ro N_ticket_of [dSet q a, .int (G q h), dPn p, dOf q f, dBl b, .int r]) o := fun {q h r a p f b o u} hq hp hm hf hb hr hu => by
    have h1 := hq.lo
    have h2 := hq.hi
    obtain ⟨hu1, hu2⟩ := id hb.u
    exact (ex_seq (ex_set (ev_call (ea_cons (ev_var rfl) (ea_cons (ev_var rfl) (ea_cons (ev_var rfl) (ea_cons (ev_var rfl) ea_nil)))) (.mk (r := 0) hq hp hm hf hb)))
      (ex_seq (ex_drop (ev_call (ea_cons (ev_var rfl) (ea_cons (ev_rest (eo_lst (ea_cons (ev_var rfl) ea_nil) (len_le rfl))) ea_nil)) (.mk (xs := [r]) (fun y hy => by rw [List.mem_singleton.mp hy]; exact hr) (Nat.le_of_ble_eq_true rfl))))
      (ex_seq (ex_asg (ev_var rfl) (tg_tup (tgs_cons tg_name (tgs_cons tg_name tgs_nil)) rfl))
      (ex_seq (ex_asg (ev_var rfl) (tg_tup (tgs_cons tg_name (tgs_cons tg_name (tgs_cons tg_name tgs_nil))) rfl))
      (ex_seq (ex_set (ev_call (ea_cons (ev_var rfl) (ea_cons (ev_call (ea_cons (ev_var rfl) (ea_cons (ev_var rfl) ea_nil)) (.mk hq)) (ea_cons (ev_op (ev_var rfl) ev_int (od_ixT rfl)) ea_nil))) (.mk hq (by omega) (by omega) (rg_ne hb.u hb.u0))))
      hu)))))
  cases h with
  | @mk q h r a p f b hq hp hm hf hb hr hg =>
    obtain ⟨g1, g2⟩ := Bool.and_eq_true_iff.mp hg
    have h1 := hq.lo
    have h2 := hq.hi
    obtain ⟨hu1, hu2⟩ := id hb.u
    exact bd_ret (pre hq hp hm hf hb hr (ex_seq (ex_ifF (eb_orF (eb_notF (eB_T (ev_call (ea_cons (ev_var rfl) (ea_cons (ev_op (ev_var rfl) ev_int (od_ixT rfl)) (ea_cons (ev_var rfl) (ea_cons (ev_var rfl) (ea_cons (ev_var rfl) (ea_cons (ev_var rfl) ea_nil)))))) (.mk hq)) g1)) (eb_notF (eB_T (ev_call (ea_cons (ev_var rfl) (ea_cons (ev_call (ea_cons (ev_var rfl) (ea_cons (ev_var rfl) ea_nil)) (.mk hq hp hm)) (ea_cons (ev_var rfl) (ea_cons (ev_var rfl) (ea_cons (ev_var rfl) (ea_cons (ev_var rfl) ea_nil)))))) (.mk hq)) g2))) ex_next)
      (ex_ret (ev_op (ev_var rfl) (ev_tup (ea_cons (ei_mod (ei_add (ei_mul (ev_op (ev_var rfl) ev_int (od_ixT rfl)) (ev_var rfl) (mulL (by omega) (by omega))) (ev_op (ev_var rfl) ev_int (od_ixT rfl))) (ev_var rfl) (by omega)) ea_nil) (len_le rfl)) (od_catT (Nat.le_of_ble_eq_true rfl))))))
  | @mkX q h r a p f b hq hp hm hf hb hr hg =>
    refine bd_exc (pre hq hp hm hf hb hr (ex_stop (ex_ifT ?_ ex_tRaise) trivial))
    cases g1 : decide (G q (a 0 * r) = G q (f.2.1 + h * rqs q a p f b)) with
    | false => exact eb_orTl (eb_notT (eB_F (ev_call (ea_cons (ev_var rfl) (ea_cons (ev_op (ev_var rfl) ev_int (od_ixT rfl)) (ea_cons (ev_var rfl) (ea_cons (ev_var rfl) (ea_cons (ev_var rfl) (ea_cons (ev_var rfl) ea_nil)))))) (.mk hq)) g1))
    | true =>
      have g2 : decide (G q (mk a p * r) = G q (f.2.2 + f.1 * rqs q a p f b)) = false := by
        unfold grd at hg
        rw [g1, Bool.true_and] at hg
        exact hg
      exact eb_orTr (eb_notF (eB_T (ev_call (ea_cons (ev_var rfl) (ea_cons (ev_op (ev_var rfl) ev_int (od_ixT rfl)) (ea_cons (ev_var rfl) (ea_cons (ev_var rfl) (ea_cons (ev_var rfl) (ea_cons (ev_var rfl) ea_nil)))))) (.mk hq)) g1)) (eb_notT (eB_F (ev_call (ea_cons (ev_var rfl) (ea_cons (ev_call (ea_cons (ev_var rfl) (ea_cons (ev_var rfl) ea_nil)) (.mk hq hp hm)) (ea_cons (ev_var rfl) (ea_cons (ev_var rfl) (ea_cons (ev_var rfl) (ea_cons (ev_var rfl) ea_nil)))))) (.mk hq)) g2))

/-! ### spends -/
structure Sd where
  d : Int
  r0 : Int
  r1 : Int
  r2 : Int
  r3 : Int
def dSd (s : Sd) : PyData := .tuple [.int s.d, .tuple [.int s.r0, .int s.r1, .int s.r2, .int s.r3]]
def spd (q : Int) (p : Tri) (b : Bl) (d : Int) : Sd := ⟨d, (b.x0 + d * b.s * 1) % q, (b.x1 + d * b.s * p.1) % q, (b.x2 + d * b.s * p.2.1) % q, (b.x3 + d * b.s * p.2.2) % q⟩
inductive R_spend_of : Con
  | mk {q d : Int} {a : Nat → Int} {p : Tri} {b : Bl} : Ord q → PnOk q p → BlOk q b → Rg q d → R_spend_of [dSet q a, dPn p, dBl b, .int d] (.ret (dSd (spd q p b d)))
theorem mulB {i j n m : Int} (h1 : 0 ≤ i) (h2 : i < n) (h3 : 0 ≤ j) (h4 : j < m) (hn : n ≤ 1000000) (hm : m ≤ 1000000) : 0 ≤ i * j ∧ i * j < 1000000000000 := by
  refine ⟨Int.mul_nonneg h1 h3, ?_⟩
  have a : i * j ≤ 1000000 * j := Int.mul_le_mul_of_nonneg_right (by omega) h3
  omega
theorem bd_spend_of {K : PySem.W.Frag} (E : XK) (ds : List PyData) (o : Out) (h : R_spend_of ds o) : Bd K E (t_spend_of K E R_check_person R_check_blinding R_check_exponents) (ro N_spend_of ds) o := by
  cases h with
  | @mk q d a p b hq hp hb hd =>
    have h1 := hq.lo
    have h2 := hq.hi
    obtain ⟨hd1, hd2⟩ := id hd
    obtain ⟨hs1, hs2⟩ := id hb.s
    have hds := mulB hd1 hd2 hs1 hs2 (by omega) (by omega)
    refine bd_ret (ex_seq (ex_drop (ev_call (ea_cons (ev_var rfl) (ea_cons (ev_var rfl) ea_nil)) (.mk hp)))
      (ex_seq (ex_drop (ev_call (ea_cons (ev_var rfl) (ea_cons (ev_var rfl) ea_nil)) (.mk hb)))
      (ex_seq (ex_drop (ev_call (ea_cons (ev_var rfl) (ea_cons (ev_rest (eo_lst (ea_cons (ev_var rfl) ea_nil) (len_le rfl))) ea_nil)) (.mk (xs := [d]) (fun y hy => by rw [List.mem_singleton.mp hy]; exact hd) (Nat.le_of_ble_eq_true rfl))))
      (ex_seq (ex_set (ev_op (ev_tup (ea_cons ev_int ea_nil) (len_le rfl)) (ev_cb (ea_cons (ev_var rfl) ea_nil) cb_tupT) (od_catT (Nat.le_of_ble_eq_true rfl))))
      (ex_seq (ex_set (ei_mul (ev_var rfl) (ev_op (ev_var rfl) ev_int (od_ixT rfl)) (mulL (by omega) (by omega))))
      (ex_seq (ex_set (ev_rest (eo_lc [.int ((b.x0 + d * b.s * 1) % q), .int ((b.x1 + d * b.s * p.1) % q), .int ((b.x2 + d * b.s * p.2.1) % q), .int ((b.x3 + d * b.s * p.2.2) % q)] (wk_zipT (ea_cons (ev_op (ev_var rfl) ev_int (od_ixT rfl)) (ea_cons (ev_var rfl) ea_nil)) rfl) rfl rfl (len_le rfl) fun j e z he hz => ?_)))
      (ex_ret (ev_tup (ea_cons (ev_var rfl) (ea_cons (ev_cb (ea_cons (ev_var rfl) ea_nil) cb_tupL) ea_nil)) (len_le rfl)))))))))
    obtain ⟨u, v, hu, hv, rfl⟩ := zipD_get he
    refine ⟨_, _, tg_tup (tgs_cons tg_name (tgs_cons tg_name tgs_nil)) rfl, fun j hj => hj, ?_⟩
    match j, hu, hv, hz with
    | 0, hu, hv, hz => cases hu; cases hv; cases hz; exact ei_mod (ei_add (ev_var rfl) (ei_mul (ev_var rfl) (ev_var rfl) (mulL (by omega) (by omega)))) (ev_op (ev_var rfl) ev_int (od_ixT rfl)) (by omega)
    | 1, hu, hv, hz => cases hu; cases hv; cases hz; exact ei_mod (ei_add (ev_var rfl) (ei_mul (ev_var rfl) (ev_var rfl) (mulL (by omega) (by omega)))) (ev_op (ev_var rfl) ev_int (od_ixT rfl)) (by omega)
    | 2, hu, hv, hz => cases hu; cases hv; cases hz; exact ei_mod (ei_add (ev_var rfl) (ei_mul (ev_var rfl) (ev_var rfl) (mulL (by omega) (by omega)))) (ev_op (ev_var rfl) ev_int (od_ixT rfl)) (by omega)
    | 3, hu, hv, hz => cases hu; cases hv; cases hz; exact ei_mod (ei_add (ev_var rfl) (ei_mul (ev_var rfl) (ev_var rfl) (mulL (by omega) (by omega)))) (ev_op (ev_var rfl) ev_int (od_ixT rfl)) (by omega)
    | j + 4, hu, hv, hz => simp at hz
structure SdOk (q : Int) (s : Sd) : Prop where
  d : Rg q s.d
  r0 : Rg q s.r0
  r1 : Rg q s.r1
  r2 : Rg q s.r2
  r3 : Rg q s.r3
inductive R_is_spend : Con
  | mk {q : Int} {a : Nat → Int} {t : Tk} {s : Sd} : Ord q → SdOk q s → G q (dot [a 1, a 2, a 3, a 4] [s.r0, s.r1, s.r2, s.r3]) = G q (t.A * s.d + t.B) → R_is_spend [dSet q a, dTk q t, dSd s] (.ret (.bool true))
theorem bd_is_spend {K : PySem.W.Frag} (E : XK) (ds : List PyData) (o : Out) (h : R_is_spend ds o) : Bd K E (t_is_spend K E R_is_element R_is_exponent_passes R_product_of_powers R_power R_product) (ro N_is_spend ds) o := by
  cases h with
  | @mk q a t s hq hs he =>
    refine bd_ret (ex_seq (ex_asg (ev_var rfl) (tg_tup (tgs_cons tg_name (tgs_cons tg_name tgs_nil)) rfl))
      (ex_seq (ex_asg (ev_var rfl) (tg_tup (tgs_cons tg_name (tgs_cons tg_name tgs_nil)) rfl))
      (ex_seq (ex_ifF (eb_orF (eb_notF (eb_B (ev_call (ea_cons (ev_var rfl) (ea_cons (ev_op (ev_var rfl) ev_int (od_ixT rfl)) ea_nil)) (.mk hq)))) (eb_notF (eb_B (ev_call (ea_cons (ev_var rfl) (ea_cons (ev_op (ev_var rfl) ev_int (od_ixT rfl)) ea_nil)) (.mk hq))))) ex_next)
      (ex_seq (ex_ifF (eb_orF (eb_notF (eb_B (ev_call (ea_cons (ev_var rfl) (ea_cons (ev_var rfl) ea_nil)) (.yes hs.d)))) (eb_notF (eb_B (ev_allT (n := 4) (eo_lc _ (ws_tup (ev_var rfl)) rfl rfl (len_le rfl) fun i d z hd hz => ?_))))) ex_next)
      (ex_ret (ev_is (ei_eq (ev_call (ea_cons (ev_var rfl) (ea_cons (ev_rest (eo_cb (ea_cons (ev_is (ev_slT (ev_var rfl) (ep_some ev_int) ep_none) (congrArg PyData.tuple drop1)) ea_nil) co_listT)) (ea_cons (ev_rest (eo_cb (ea_cons (ev_var rfl) ea_nil) co_listT)) ea_nil))) (.mk (ks := [a 1, a 2, a 3, a 4]) (es := [s.r0, s.r1, s.r2, s.r3]) hq rfl)) (ev_call (ea_cons (ev_var rfl) (ea_cons (ev_call (ea_cons (ev_var rfl) (ea_cons (ev_op (ev_var rfl) ev_int (od_ixT rfl)) (ea_cons (ev_var rfl) ea_nil))) (.mk hq)) (ea_cons (ev_op (ev_var rfl) ev_int (od_ixT rfl)) ea_nil))) (.mk hq))) (congrArg PyData.bool (decide_eq_true he))))))))
    cases rep_get hz
    refine ⟨_, _, tg_name, fun j hj => hj, ?_⟩
    match i, hd with
    | 0, hd => cases hd; exact ev_call (ea_cons (ev_var rfl) (ea_cons (ev_var rfl) ea_nil)) (.yes hs.r0)
    | 1, hd => cases hd; exact ev_call (ea_cons (ev_var rfl) (ea_cons (ev_var rfl) ea_nil)) (.yes hs.r1)
    | 2, hd => cases hd; exact ev_call (ea_cons (ev_var rfl) (ea_cons (ev_var rfl) ea_nil)) (.yes hs.r2)
    | 3, hd => cases hd; exact ev_call (ea_cons (ev_var rfl) (ea_cons (ev_var rfl) ea_nil)) (.yes hs.r3)
    | i + 4, hd => simp at hd

/-! ### tickets -/
theorem take5 {a b c d e : PyData} {xs : List PyData} : cutD (a :: b :: c :: d :: e :: xs) none (some 5) = [a, b, c, d, e] := by
  have := cut_take (xs := a :: b :: c :: d :: e :: xs) (i := 5) (by simp)
  exact this
inductive R_inner_challenge : Con
  | mk {q : Int} {a : Nat → Int} {t : Tk} : Ord q → R_inner_challenge [dSet q a, dTk q t] (.ret (.int (c1 q t)))
theorem bd_inner_challenge {K : PySem.W.Frag} (E : XK) (ds : List PyData) (o : Out) (h : R_inner_challenge ds o) : Bd K E (t_inner_challenge K E R_challenge_for) (ro N_inner_challenge ds) o := by
  cases h with
  | @mk q a t hq => exact bd_ret (ex_ret (ev_call (ea_cons (ev_op (ev_var rfl) ev_int (od_ixT rfl)) (ea_cons (ev_is (ev_slT (ev_var rfl) ep_none (ep_some ev_int)) (congrArg PyData.tuple take5)) ea_nil)) (.mk (t := t) hq)))
structure TkOk (q : Int) (a : Nat → Int) (h : Int) (t : Tk) : Prop where
  A : t.A % q ≠ 0
  r : Rg q t.r
  g1 : G q (a 0 * t.r) = G q (t.a + h * c1 q t)
  g2 : G q (t.A * t.r) = G q (t.b + t.z * c1 q t)
inductive R_is_ticket : Con
  | mk {q h : Int} {a : Nat → Int} {t : Tk} : Ord q → TkOk q a h t → R_is_ticket [dSet q a, .int (G q h), dTk q t] (.ret (.bool true))
theorem bd_is_ticket {K : PySem.W.Frag} (E : XK) (ds : List PyData) (o : Out) (h : R_is_ticket ds o) : Bd K E (t_is_ticket K E R_is_element R_is_exponent_passes R_inner_challenge R_is_granted) (ro N_is_ticket ds) o := by
  cases h with
  | @mk q h a t hq ht =>
    refine bd_ret (ex_seq (ex_asg (ev_var rfl) (tg_tup (tgs_cons tg_name (tgs_cons tg_name tgs_nil)) rfl))
      (ex_seq (ex_ifF (eb_orF (eb_notF (eb_B (ev_allT (n := 5) (eo_lc _ (ws_tup (ev_is (ev_slT (ev_var rfl) ep_none (ep_some ev_int)) (congrArg PyData.tuple take5))) rfl rfl (len_le rfl) fun i d z hd hz => ?_)))) (eb_orF (eb_F (ei_eq (ev_op (ev_var rfl) ev_int (od_ixT rfl)) ev_int) (decide_eq_false (G_ne1 hq ht.A))) (eb_notF (eb_B (ev_call (ea_cons (ev_var rfl) (ea_cons (ev_op (ev_var rfl) ev_int (od_ixT rfl)) ea_nil)) (.yes ht.r)))))) ex_next)
      (ex_seq (ex_asg (ev_var rfl) (tg_tup (tgs_cons tg_name (tgs_cons tg_name (tgs_cons tg_name (tgs_cons tg_name (tgs_cons tg_name (tgs_cons tg_name tgs_nil)))))) rfl))
      (ex_seq (ex_set (ev_call (ea_cons (ev_var rfl) (ea_cons (ev_var rfl) ea_nil)) (.mk hq)))
      (ex_ret (ev_andT (ev_is (ev_call (ea_cons (ev_var rfl) (ea_cons (ev_op (ev_var rfl) ev_int (od_ixT rfl)) (ea_cons (ev_var rfl) (ea_cons (ev_var rfl) (ea_cons (ev_var rfl) (ea_cons (ev_var rfl) ea_nil)))))) (.mk hq)) (congrArg PyData.bool (decide_eq_true ht.g1))) (ev_is (ev_call (ea_cons (ev_var rfl) (ea_cons (ev_var rfl) (ea_cons (ev_var rfl) (ea_cons (ev_var rfl) (ea_cons (ev_var rfl) (ea_cons (ev_var rfl) ea_nil)))))) (.mk hq)) (congrArg PyData.bool (decide_eq_true ht.g2)))))))))
    cases rep_get hz
    refine ⟨_, _, tg_name, fun j hj => hj, ?_⟩
    match i, hd with
    | 0, hd => cases hd; exact ev_call (ea_cons (ev_var rfl) (ea_cons (ev_var rfl) ea_nil)) (.mk hq)
    | 1, hd => cases hd; exact ev_call (ea_cons (ev_var rfl) (ea_cons (ev_var rfl) ea_nil)) (.mk hq)
    | 2, hd => cases hd; exact ev_call (ea_cons (ev_var rfl) (ea_cons (ev_var rfl) ea_nil)) (.mk hq)
    | 3, hd => cases hd; exact ev_call (ea_cons (ev_var rfl) (ea_cons (ev_var rfl) ea_nil)) (.mk hq)
    | 4, hd => cases hd; exact ev_call (ea_cons (ev_var rfl) (ea_cons (ev_var rfl) ea_nil)) (.mk hq)
    | i + 5, hd => simp at hd
end Ck

/-! Plain data: ints, texts, None, and lists and tuples of them. Two of them are equal to Python where they are the same. -/
namespace Ck
open PySem PySem.Spec PyProof.Rows L2

def Pl : Nat → PyData → Prop
  | _, .int _ => True
  | _, .none => True
  | _, .str x => PyData.strOk x = true
  | n + 1, .list xs => ∀ x ∈ xs, Pl n x
  | n + 1, .tuple xs => ∀ x ∈ xs, Pl n x
  | _, _ => False
theorem canAll {xs : List PyData} (h : ∀ x ∈ xs, x.canLay0 = true) : PyData.canLayAll0 xs = true := by
  induction xs with
  | nil => rw [PyData.canLayAll0]
  | cons x xs ih =>
    rw [PyData.canLayAll0, h x (List.mem_cons_self ..), ih fun y hy => h y (List.mem_cons_of_mem _ hy)]
    rfl
theorem depAll {n : Nat} {xs : List PyData} (h : ∀ x ∈ xs, x.depth ≤ n) : PyData.depthAll xs ≤ n := by
  induction xs with
  | nil => rw [PyData.depthAll]; exact Nat.zero_le _
  | cons x xs ih =>
    rw [PyData.depthAll]
    exact Nat.max_le.mpr ⟨h x (List.mem_cons_self ..), ih fun y hy => h y (List.mem_cons_of_mem _ hy)⟩
theorem Pl.can : ∀ (n : Nat) (d : PyData), Pl n d → d.canLay0 = true ∧ d.depth ≤ n
  | 0, d, h => by
    cases d with
    | int i => rw [PyData.canLay0, PyData.depth] <;> exact ⟨rfl, Nat.le_refl _⟩
    | none => rw [PyData.canLay0, PyData.depth] <;> exact ⟨rfl, Nat.le_refl _⟩
    | str x => rw [PyData.canLay0, PyData.depth] <;> exact ⟨h, Nat.le_refl _⟩
    | list xs => exact h.elim
    | tuple xs => exact h.elim
    | bool b => exact h.elim
    | dict b => exact h.elim
  | n + 1, d, h => by
    cases d with
    | int i => rw [PyData.canLay0, PyData.depth] <;> exact ⟨rfl, Nat.zero_le _⟩
    | none => rw [PyData.canLay0, PyData.depth] <;> exact ⟨rfl, Nat.zero_le _⟩
    | str x => rw [PyData.canLay0, PyData.depth] <;> exact ⟨h, Nat.zero_le _⟩
    | list xs =>
      rw [PyData.canLay0, PyData.depth]
      exact ⟨canAll fun x hx => (Pl.can n x (h x hx)).1, Nat.succ_le_succ (depAll fun x hx => (Pl.can n x (h x hx)).2)⟩
    | tuple xs =>
      rw [PyData.canLay0, PyData.depth]
      exact ⟨canAll fun x hx => (Pl.can n x (h x hx)).1, Nat.succ_le_succ (depAll fun x hx => (Pl.can n x (h x hx)).2)⟩
    | bool b => exact h.elim
    | dict b => exact h.elim
theorem Pl.shp {n : Nat} {d : PyData} (h : Pl n d) (hn : n ≤ 64 := by decide) : Shp d := by
  have h1 := Pl.can n d h
  show (d.canLay0 && decide (d.depth ≤ 64)) = true
  rw [h1.1, decide_eq_true (Nat.le_trans h1.2 hn)]
  rfl
theorem eqvAll_of {xs ys : List PyData} (h : ∀ x ∈ xs, ∀ y ∈ ys, PyData.eqv x y = true → x = y) : PyData.eqvAll xs ys = true → xs = ys := by
  induction xs generalizing ys with
  | nil =>
    cases ys with
    | nil => exact fun _ => rfl
    | cons y ys => rw [PyData.eqvAll]; exact fun e => Bool.noConfusion e
  | cons x xs ih =>
    cases ys with
    | nil => rw [PyData.eqvAll]; exact fun e => Bool.noConfusion e
    | cons y ys =>
      rw [PyData.eqvAll]
      intro e
      obtain ⟨e1, e2⟩ := Bool.and_eq_true_iff.mp e
      rw [h x (List.mem_cons_self ..) y (List.mem_cons_self ..) e1, ih (fun a ha b hb => h a (List.mem_cons_of_mem _ ha) b (List.mem_cons_of_mem _ hb)) e2]
theorem Pl.same : ∀ (n : Nat) (x y : PyData), Pl n x → Pl n y → PyData.eqv x y = true → x = y
  | 0, x, y, hx, hy => by
    cases x <;> first | exact hx.elim | (cases y <;> first | exact hy.elim | (rw [PyData.eqv]; intro e; first | exact Bool.noConfusion e | rfl | exact congrArg _ (eq_of_beq e)))
  | n + 1, x, y, hx, hy => by
    cases x with
    | int i => cases y <;> first | exact hy.elim | (rw [PyData.eqv]; intro e; first | exact Bool.noConfusion e | exact congrArg _ (eq_of_beq e))
    | str i => cases y <;> first | exact hy.elim | (rw [PyData.eqv]; intro e; first | exact Bool.noConfusion e | exact congrArg _ (eq_of_beq e))
    | none => cases y <;> first | exact hy.elim | (rw [PyData.eqv]; intro e; first | exact Bool.noConfusion e | rfl)
    | list xs => cases y <;> first | exact hy.elim | (rw [PyData.eqv]; intro e; first | exact Bool.noConfusion e | exact congrArg _ (eqvAll_of (fun a ha b hb => Pl.same n a b (hx a ha) (hy b hb)) e))
    | tuple xs => cases y <;> first | exact hy.elim | (rw [PyData.eqv]; intro e; first | exact Bool.noConfusion e | exact congrArg _ (eqvAll_of (fun a ha b hb => Pl.same n a b (hx a ha) (hy b hb)) e))
    | bool b => exact hx.elim
    | dict b => exact hx.elim
theorem Pl.refl {n : Nat} {x : PyData} (hx : Pl n x) : PyData.eqv x x = true := PySem.SeqAt.eqv_refl x (Pl.can n x hx).1
theorem Pl.eqvF {n : Nat} {x y : PyData} (hx : Pl n x) (hy : Pl n y) (h : x ≠ y) : PyData.eqv x y = false := by
  cases e : PyData.eqv x y with
  | false => rfl
  | true => exact absurd (Pl.same n x y hx hy e) h
theorem pl_int {n : Nat} {i : Int} : Pl n (.int i) := by cases n <;> trivial
theorem pl_none {n : Nat} : Pl n .none := by cases n <;> trivial
theorem pl_str {n : Nat} {x : Str} (h : PyData.strOk x = true) : Pl n (.str x) := by cases n <;> exact h
theorem pl_nil {n : Nat} : ∀ x ∈ ([] : List PyData), Pl n x := fun _ h => nomatch h
theorem pl_cons {n : Nat} {x : PyData} {xs : List PyData} (h : Pl n x) (hs : ∀ y ∈ xs, Pl n y) : ∀ y ∈ x :: xs, Pl n y := fun y hy => by
  rcases List.mem_cons.mp hy with rfl | hy
  · exact h
  · exact hs y hy
theorem pl_tup {n : Nat} {xs : List PyData} (h : ∀ x ∈ xs, Pl n x) : Pl (n + 1) (.tuple xs) := h
theorem pl_lst {n : Nat} {xs : List PyData} (h : ∀ x ∈ xs, Pl n x) : Pl (n + 1) (.list xs) := h
theorem pl_map {n : Nat} {α : Type} {f : α → PyData} {l : List α} (h : ∀ a ∈ l, Pl n (f a)) : ∀ x ∈ l.map f, Pl n x := fun x hx => by
  obtain ⟨a, ha, rfl⟩ := List.mem_map.mp hx
  exact h a ha
/-! the comparisons of plain data -/
section
variable {K : PySem.W.Frag} {n : Nat} {r : Ro} {ta tb : TE} {x y : PyData} {ds : List PyData}
theorem eb_neF (hn : n ≤ 64) (hx : EvD ta r x) (hy : EvD tb r x) (px : Pl n x) : EvB (tTest (tOp (rNeD K) ta tb)) r false := eb_F (ev_op hx hy (od_neD (px.shp hn) (px.shp hn))) (by rw [px.refl]; rfl)
theorem eb_neT (hn : n ≤ 64) (hx : EvD ta r x) (hy : EvD tb r y) (px : Pl n x) (py : Pl n y) (h : x ≠ y) : EvB (tTest (tOp (rNeD K) ta tb)) r true := eb_T (ev_op hx hy (od_neD (px.shp hn) (py.shp hn))) (by rw [px.eqvF py h]; rfl)
theorem eb_eqF (hn : n ≤ 64) (hx : EvD ta r x) (hy : EvD tb r y) (px : Pl n x) (py : Pl n y) (h : x ≠ y) : EvB (tTest (tOp (rEqD K) ta tb)) r false := eb_F (ev_op hx hy (od_eqD (px.shp hn) (py.shp hn))) (px.eqvF py h)
theorem eb_eqT (hn : n ≤ 64) (hx : EvD ta r x) (hy : EvD tb r x) (px : Pl n x) : EvB (tTest (tOp (rEqD K) ta tb)) r true := eb_T (ev_op hx hy (od_eqD (px.shp hn) (px.shp hn))) px.refl
theorem eb_eqV (hn : n ≤ 64) (hx : EvD ta r x) (hy : EvD tb r y) (px : Pl n x) (py : Pl n y) {b : Bool} (h : b = true ↔ x = y) : EvB (tTest (tOp (rEqD K) ta tb)) r b := by
  cases b with
  | false => exact eb_eqF hn hx hy px py fun e => Bool.noConfusion (h.mpr e)
  | true =>
    have e := h.mp rfl
    subst e
    exact eb_eqT hn hx hy px
theorem any_mem (px : Pl n x) (py : ∀ z ∈ ds, Pl n z) : (ds.any fun z => PyData.eqv z x) = true ↔ x ∈ ds := by
  rw [List.any_eq_true]
  constructor
  · rintro ⟨z, hz, e⟩
    rw [← Pl.same n z x (py z hz) px e]
    exact hz
  · exact fun h => ⟨x, h, px.refl⟩
theorem eb_niF (hn : n + 1 ≤ 64) (hx : EvD ta r x) (hy : EvD tb r (.list ds)) (px : Pl n x) (py : ∀ z ∈ ds, Pl n z) (h : x ∈ ds) : EvB (tTest (tOp (rNotInD K) ta tb)) r false :=
  eb_F (ev_op hx hy (od_notInD (px.shp (Nat.le_of_succ_le hn)) ((pl_lst py).shp hn))) (by rw [(any_mem px py).mpr h]; rfl)
theorem eb_niT (hn : n + 1 ≤ 64) (hx : EvD ta r x) (hy : EvD tb r (.list ds)) (px : Pl n x) (py : ∀ z ∈ ds, Pl n z) (h : ¬ x ∈ ds) : EvB (tTest (tOp (rNotInD K) ta tb)) r true :=
  eb_T (ev_op hx hy (od_notInD (px.shp (Nat.le_of_succ_le hn)) ((pl_lst py).shp hn))) (by
    cases e : (ds.any fun z => PyData.eqv z x) with
    | false => rfl
    | true => exact absurd ((any_mem px py).mp e) h)
theorem ev_indexP {j : Nat} (hn : n + 1 ≤ 64) (ho : EvD ta r (.list ds)) (he : EvD tb r x) (py : ∀ z ∈ ds, Pl n z) (hz : ds[j]? = some x) (hm : ∀ m : Nat, m < j → ds[m]? ≠ some x) :
    EvD (tBM K "list" (rIndexD K) ta (tCons tb tNil)) r (.int (j : Nat)) := by
  have px := py x (List.mem_of_getElem? hz)
  exact ev_index ho he ((pl_lst py).shp hn) (px.shp (Nat.le_of_succ_le hn)) hz px.refl fun m z' hmj hz' => (py z' (List.mem_of_getElem? hz')).eqvF px fun e => hm m hmj (by rw [hz', e])
end
end Ck

/-! What blinding_of and explain_ticket hand back. -/
namespace Ck
open PySem PySem.Spec PyProof.Rows L2

def dRec (q : Int) (p f : Tri) (c r : Int) : PyData := .tuple [dPn p, dOf q f, .int c, .int r]
/-- the only blinding that can lead there -/
def xBl (q : Int) (a : Nat → Int) (p : Tri) (c r : Int) (t : Tk) (s : Sd) : Bl :=
  ⟨quo q t.A (mk a p), quo q (c1 q t) c, (t.r - quo q (c1 q t) c * r) % q, (s.r0 - s.d * quo q t.A (mk a p) * 1) % q, (s.r1 - s.d * quo q t.A (mk a p) * p.1) % q, (s.r2 - s.d * quo q t.A (mk a p) * p.2.1) % q, (s.r3 - s.d * quo q t.A (mk a p) * p.2.2) % q⟩
theorem quo_ne {q x y : Int} (h : Ord q) (hx : x % q ≠ 0) (hy : y % q ≠ 0) : quo q x y ≠ 0 := fun e => by
  have := quo_mul (a := x) h hy
  rw [e, Int.zero_mul, Int.zero_emod] at this
  exact hx this.symm
theorem c1_ne {q : Int} (h : Ord q) (t : Tk) : c1 q t % q ≠ 0 := by
  have h1 := c1_lo h t
  have h2 := c1_hi h t
  rw [Int.emod_eq_of_lt (by omega) h2]
  omega
theorem xBl_ok {q c r : Int} {a : Nat → Int} {p : Tri} {t : Tk} {s : Sd} (h : Ord q) (hm : mk a p % q ≠ 0) (hA : t.A % q ≠ 0) (hc : c % q ≠ 0) : BlOk q (xBl q a p c r t s) where
  s := ⟨quo_nn h, quo_lt h⟩
  s0 := quo_ne h hA hm
  u := ⟨quo_nn h, quo_lt h⟩
  u0 := quo_ne h (c1_ne h t) hc
  v := rg_mod h _
  x0 := rg_mod h _
  x1 := rg_mod h _
  x2 := rg_mod h _
  x3 := rg_mod h _
inductive R_blinding_of : Con
  | mk {q c r : Int} {a : Nat → Int} {p f : Tri} {t : Tk} {s : Sd} : Ord q → PnOk q p → mk a p % q ≠ 0 → Rg q c → c % q ≠ 0 → SdOk q s → R_blinding_of [dSet q a, dRec q p f c r, dTk q t, dSd s] (.ret (dBl (xBl q a p c r t s)))
  | mkX {q c r : Int} {a : Nat → Int} {p f : Tri} {t : Tk} {s : Sd} : Ord q → PnOk q p → mk a p % q ≠ 0 → c % q = 0 → R_blinding_of [dSet q a, dRec q p f c r, dTk q t, dSd s] (.exc "NotAllowed")
theorem bd_blinding_of {K : PySem.W.Frag} (E : XK) (ds : List PyData) (o : Out) (h : R_blinding_of ds o) : Bd K E (t_blinding_of K E R_mark_of R_logarithm R_inner_challenge R_quotient) (ro N_blinding_of ds) o := by
  cases h with
  | @mk q c r a p f t s hq hp hm hc hc0 hs =>
    have h1 := hq.lo
    have h2 := hq.hi
    have e1 := quo_nn (a := t.A) (b := mk a p) hq
    have e2 := quo_lt (a := t.A) (b := mk a p) hq
    have u1 := quo_nn (a := c1 q t) (b := c) hq
    have u2 := quo_lt (a := c1 q t) (b := c) hq
    obtain ⟨hc1, hc2⟩ := id hc
    obtain ⟨d1, d2⟩ := id hs.d
    have hds := mulB d1 d2 e1 e2 (by omega) (by omega)
    refine bd_ret (ex_seq (ex_asg (ev_var rfl) (tg_tup (tgs_cons tg_name (tgs_cons tg_name (tgs_cons tg_name (tgs_cons tg_name tgs_nil)))) rfl))
      (ex_seq (ex_set (ev_op (ev_var rfl) ev_int (od_ixT rfl)))
      (ex_seq (ex_set (ev_call (ea_cons (ev_var rfl) (ea_cons (ev_call (ea_cons (ev_var rfl) (ea_cons (ev_var rfl) ea_nil)) (.mk hq hp hm)) (ea_cons (ev_op (ev_var rfl) ev_int (od_ixT rfl)) ea_nil))) (.mk hq hm)))
      (ex_seq (ex_set (ev_call (ea_cons (ev_var rfl) (ea_cons (ev_call (ea_cons (ev_var rfl) (ea_cons (ev_var rfl) ea_nil)) (.mk hq)) (ea_cons (ev_var rfl) ea_nil))) (.mk hq (by omega) (by omega) hc0)))
      ?_))))
    simp only [ro, List.map_cons, List.map_nil, List.length_cons, List.length_nil, Nat.reduceAdd, Nat.reduceSub, List.replicate_succ, List.replicate_zero, List.cons_append, List.nil_append, List.set_cons_succ, List.set_cons_zero]
    refine (ex_seq (ex_set (ei_mod (ei_sub (ev_op (ev_var rfl) ev_int (od_ixT rfl)) (ei_mul (ev_var rfl) (ev_var rfl) (mulL (by omega) (by omega)))) (ev_var rfl) (by omega)))
      (ex_seq (ex_asg (ev_var rfl) (tg_tup (tgs_cons tg_name (tgs_cons tg_name tgs_nil)) rfl))
      (ex_seq (ex_set (ev_op (ev_tup (ea_cons ev_int ea_nil) (len_le rfl)) (ev_cb (ea_cons (ev_var rfl) ea_nil) cb_tupT) (od_catT (Nat.le_of_ble_eq_true rfl))))
      ?_)))
    simp only [ro, List.map_cons, List.map_nil, List.length_cons, List.length_nil, Nat.reduceAdd, Nat.reduceSub, List.replicate_succ, List.replicate_zero, List.cons_append, List.nil_append, List.set_cons_succ, List.set_cons_zero]
    refine (ex_seq (ex_set (ev_rest (eo_lc [.int ((s.r0 - s.d * quo q t.A (mk a p) * 1) % q), .int ((s.r1 - s.d * quo q t.A (mk a p) * p.1) % q), .int ((s.r2 - s.d * quo q t.A (mk a p) * p.2.1) % q), .int ((s.r3 - s.d * quo q t.A (mk a p) * p.2.2) % q)] (wk_zipT (ea_cons (ev_var rfl) (ea_cons (ev_var rfl) ea_nil)) rfl) rfl rfl (len_le rfl) fun j e z he hz => ?_)))
      (ex_ret (ev_tup (ea_cons (ev_var rfl) (ea_cons (ev_var rfl) (ea_cons (ev_var rfl) (ea_cons (ev_cb (ea_cons (ev_var rfl) ea_nil) cb_tupL) ea_nil)))) (len_le rfl))))
    obtain ⟨u, v, hu, hv, rfl⟩ := zipD_get he
    refine ⟨_, _, tg_tup (tgs_cons tg_name (tgs_cons tg_name tgs_nil)) rfl, fun j hj => hj, ?_⟩
    match j, hu, hv, hz with
    | 0, hu, hv, hz => cases hu; cases hv; cases hz; exact ei_mod (ei_sub (ev_var rfl) (ei_mul (ei_mul (ev_var rfl) (ev_var rfl) (mulL (by omega) (by omega))) (ev_var rfl) (mulL (by omega) (by omega)))) (ev_var rfl) (by omega)
    | 1, hu, hv, hz => cases hu; cases hv; cases hz; exact ei_mod (ei_sub (ev_var rfl) (ei_mul (ei_mul (ev_var rfl) (ev_var rfl) (mulL (by omega) (by omega))) (ev_var rfl) (mulL (by omega) (by omega)))) (ev_var rfl) (by omega)
    | 2, hu, hv, hz => cases hu; cases hv; cases hz; exact ei_mod (ei_sub (ev_var rfl) (ei_mul (ei_mul (ev_var rfl) (ev_var rfl) (mulL (by omega) (by omega))) (ev_var rfl) (mulL (by omega) (by omega)))) (ev_var rfl) (by omega)
    | 3, hu, hv, hz => cases hu; cases hv; cases hz; exact ei_mod (ei_sub (ev_var rfl) (ei_mul (ei_mul (ev_var rfl) (ev_var rfl) (mulL (by omega) (by omega))) (ev_var rfl) (mulL (by omega) (by omega)))) (ev_var rfl) (by omega)
    | j + 4, hu, hv, hz => simp at hz
  | @mkX q c r a p f t s hq hp hm hc =>
    exact bd_exc (ex_seq (ex_asg (ev_var rfl) (tg_tup (tgs_cons tg_name (tgs_cons tg_name (tgs_cons tg_name (tgs_cons tg_name tgs_nil)))) rfl))
      (ex_seq (ex_set (ev_op (ev_var rfl) ev_int (od_ixT rfl)))
      (ex_seq (ex_set (ev_call (ea_cons (ev_var rfl) (ea_cons (ev_call (ea_cons (ev_var rfl) (ea_cons (ev_var rfl) ea_nil)) (.mk hq hp hm)) (ea_cons (ev_op (ev_var rfl) ev_int (od_ixT rfl)) ea_nil))) (.mk hq hm)))
      (ex_stop (ex_asgX (ev_callX (ea_cons (ev_var rfl) (ea_cons (ev_call (ea_cons (ev_var rfl) (ea_cons (ev_var rfl) ea_nil)) (.mk hq)) (ea_cons (ev_var rfl) ea_nil))) (.mkX hq hc))) trivial))))
theorem evx_tup {K : PySem.W.Frag} {W : WX} {te : TE} {ta : TA} {r : Ro} {x : Str} (h : EvX K W te r x) : EvX K W (tTup (tCons te ta)) r x := fun M0 H0 σ M H R q Q => h M0 H0 σ M H R q _
theorem pl_dTk {n : Nat} {q : Int} {t : Tk} : Pl (n + 1) (dTk q t) := pl_tup (pl_cons pl_int (pl_cons pl_int (pl_cons pl_int (pl_cons pl_int (pl_cons pl_int (pl_cons pl_int pl_nil))))))
theorem pl_dSd {n : Nat} {s : Sd} : Pl (n + 2) (dSd s) := pl_tup (pl_cons pl_int (pl_cons (pl_tup (pl_cons pl_int (pl_cons pl_int (pl_cons pl_int (pl_cons pl_int pl_nil))))) pl_nil))
inductive R_explain_ticket : Con
  | mk {q h c r : Int} {a : Nat → Int} {p f : Tri} {t : Tk} {s : Sd} : Ord q → PnOk q p → mk a p % q ≠ 0 → f.1 % q ≠ 0 → Rg q c → c % q ≠ 0 → Rg q r → SdOk q s → t.A % q ≠ 0 →
      rqs q a p f (xBl q a p c r t s) = c → grd q a p f h r c = true → dTk q (tkt q a p f (xBl q a p c r t s) r) = dTk q t → dSd (spd q p (xBl q a p c r t s) s.d) = dSd s →
      R_explain_ticket [dSet q a, .int (G q h), dRec q p f c r, dTk q t, dSd s] (.ret (dBl (xBl q a p c r t s)))
  | mkN {q h c r : Int} {a : Nat → Int} {p f : Tri} {t : Tk} {s : Sd} : Ord q → PnOk q p → mk a p % q ≠ 0 → f.1 % q ≠ 0 → Rg q c → Rg q r → SdOk q s → t.A % q ≠ 0 →
      (c % q = 0 ∨ grd q a p f h r c = false) → R_explain_ticket [dSet q a, .int (G q h), dRec q p f c r, dTk q t, dSd s] (.ret .none)
theorem bd_explain_ticket {K : PySem.W.Frag} {mg : Str → Option Value} (T : Tx K mg) (E : XK) (ds : List PyData) (o : Out) (h : R_explain_ticket ds o) : Bd K E (t_explain_ticket K E R_blinding_of R_request_of R_spend_of R_ticket_of) (ro N_explain_ticket ds) o := by
  cases h with
  | @mk q h c r a p f t s hq hp hm hf hc hc0 hr hs hA hrq hg ht hd =>
    have hb := xBl_ok (r := r) (s := s) hq hm hA hc0
    have hg' : grd q a p f h r (rqs q a p f (xBl q a p c r t s)) = true := by rw [hrq]; exact hg
    refine bd_ret (ex_seq (ex_asg (ev_var rfl) (tg_tup (tgs_cons tg_name (tgs_cons tg_name (tgs_cons tg_name (tgs_cons tg_name tgs_nil)))) rfl))
      (ex_seq (ex_tryOk (fun W' => (ex_seq (ex_set (ev_call (ea_cons (ev_var rfl) (ea_cons (ev_var rfl) (ea_cons (ev_var rfl) (ea_cons (ev_var rfl) ea_nil)))) (.mk hq hp hm hc hc0 hs)))
      (ex_seq (ex_ifF (eb_F (ei_ne (ev_call (ea_cons (ev_var rfl) (ea_cons (ev_var rfl) (ea_cons (ev_var rfl) (ea_cons (ev_var rfl) ea_nil)))) (.mk hq hp hm hf hb)) (ev_var rfl)) (by rw [decide_eq_true hrq]; rfl)) ex_next)
      (ex_set (ev_tup (ea_cons (ev_call (ea_cons (ev_var rfl) (ea_cons (ev_var rfl) (ea_cons (ev_var rfl) (ea_cons (ev_var rfl) (ea_cons (ev_var rfl) (ea_cons (ev_var rfl) ea_nil)))))) (.mk hq hp hm hf hb hr hg')) (ea_cons (ev_call (ea_cons (ev_var rfl) (ea_cons (ev_var rfl) (ea_cons (ev_var rfl) (ea_cons (ev_op (ev_var rfl) ev_int (od_ixT rfl)) ea_nil)))) (.mk hq hp hb hs.d)) ea_nil)) (len_le rfl)))))) (fun _ _ e => Res.noConfusion e))
      ?_))
    simp only [ro, List.map_cons, List.map_nil, List.length_cons, List.length_nil, Nat.reduceAdd, Nat.reduceSub, List.replicate_succ, List.replicate_zero, List.cons_append, List.nil_append, List.set_cons_succ, List.set_cons_zero]
    rw [ht, hd]
    exact (ex_seq (ex_ifF (eb_neF (n := 5) (by decide) (ev_var rfl) (ev_tup (ea_cons (ev_var rfl) (ea_cons (ev_var rfl) ea_nil)) (len_le rfl)) (pl_tup (pl_cons pl_dTk (pl_cons pl_dSd pl_nil)))) ex_next)
      (ex_ret (ev_var rfl)))
  | @mkN q h c r a p f t s hq hp hm hf hc hr hs hA hn =>
    by_cases hc0 : c % q = 0
    · exact bd_ret (ex_seq (ex_asg (ev_var rfl) (tg_tup (tgs_cons tg_name (tgs_cons tg_name (tgs_cons tg_name (tgs_cons tg_name tgs_nil)))) rfl))
      (ex_stop (ex_tryX (fun W' => ex_stop (ex_asgX (ev_callX (ea_cons (ev_var rfl) (ea_cons (ev_var rfl) (ea_cons (ev_var rfl) (ea_cons (ev_var rfl) ea_nil)))) (.mkX hq hp hm hc0))) trivial) T.mNC (fun a => ex_ret ev_non)) trivial))
    · have hb := xBl_ok (r := r) (s := s) hq hm hA hc0
      have hg : grd q a p f h r c = false := hn.resolve_left hc0
      by_cases hrq : rqs q a p f (xBl q a p c r t s) = c
      · have hg' : grd q a p f h r (rqs q a p f (xBl q a p c r t s)) = false := by rw [hrq]; exact hg
        exact bd_ret (ex_seq (ex_asg (ev_var rfl) (tg_tup (tgs_cons tg_name (tgs_cons tg_name (tgs_cons tg_name (tgs_cons tg_name tgs_nil)))) rfl))
      (ex_stop (ex_tryX (fun W' => (ex_seq (ex_set (ev_call (ea_cons (ev_var rfl) (ea_cons (ev_var rfl) (ea_cons (ev_var rfl) (ea_cons (ev_var rfl) ea_nil)))) (.mk hq hp hm hc hc0 hs)))
      (ex_seq (ex_ifF (eb_F (ei_ne (ev_call (ea_cons (ev_var rfl) (ea_cons (ev_var rfl) (ea_cons (ev_var rfl) (ea_cons (ev_var rfl) ea_nil)))) (.mk hq hp hm hf hb)) (ev_var rfl)) (by rw [decide_eq_true hrq]; rfl)) ex_next)
      (ex_asgX (evx_tup (ev_callX (ea_cons (ev_var rfl) (ea_cons (ev_var rfl) (ea_cons (ev_var rfl) (ea_cons (ev_var rfl) (ea_cons (ev_var rfl) (ea_cons (ev_var rfl) ea_nil)))))) (.mkX hq hp hm hf hb hr hg'))))))) T.mBC (fun a => ex_ret ev_non)) trivial))
      · exact bd_ret (ex_seq (ex_asg (ev_var rfl) (tg_tup (tgs_cons tg_name (tgs_cons tg_name (tgs_cons tg_name (tgs_cons tg_name tgs_nil)))) rfl))
      (ex_stop (ex_tryOk (fun W' => (ex_seq (ex_set (ev_call (ea_cons (ev_var rfl) (ea_cons (ev_var rfl) (ea_cons (ev_var rfl) (ea_cons (ev_var rfl) ea_nil)))) (.mk hq hp hm hc hc0 hs)))
      (ex_stop (ex_ifT (eb_T (ei_ne (ev_call (ea_cons (ev_var rfl) (ea_cons (ev_var rfl) (ea_cons (ev_var rfl) (ea_cons (ev_var rfl) ea_nil)))) (.mk hq hp hm hf hb)) (ev_var rfl)) (by rw [decide_eq_false hrq]; rfl)) (ex_ret ev_non)) trivial))) (fun _ _ e => Res.noConfusion e)) trivial))
end Ck

/-! What the defs of gates and showings hand back. -/
namespace Ck
open PySem PySem.Spec PyProof.Rows L2

structure GtOk (g : Str) : Prop where
  lo : 1 ≤ g.length
  hi : g.length ≤ 6
  low : ∀ c ∈ g.cps.toList, c ∈ ("abcdefghijklmnopqrstuvwxyz" : Str).cps.toList
def dCtx (g : Str) (m : Int) : PyData := .tuple [.str g, .int m]
def MoOk (m : Int) : Prop := 0 ≤ m ∧ m ≤ 999999
inductive R_is_gate_name : Con
  | mk {g : Str} : GtOk g → R_is_gate_name [.str g] (.ret (.bool true))
theorem strD_get {z : Str} {i : Nat} {d : PyData} (h : (strD z)[i]? = some d) : ∃ c, c ∈ z.cps.toList ∧ d = .str ⟨#[c]⟩ := by
  unfold strD at h
  obtain ⟨c, h1, h2⟩ := map_get h
  exact ⟨c, List.mem_of_getElem? h1, h2⟩
theorem bd_is_gate_name {K : PySem.W.Frag} (E : XK) (ds : List PyData) (o : Out) (h : R_is_gate_name ds o) : Bd K E (t_is_gate_name K E) (ro N_is_gate_name ds) o := by
  cases h with
  | @mk g hg =>
    have h1 := hg.lo
    have h2 := hg.hi
    have hl : (strD g).length = g.length := by unfold strD; rw [List.length_map]; rfl
    refine bd_ret (ex_ret (ev_andT (ev_is (ev_chain ev_int (ev_cb (ea_cons (ev_var rfl) ea_nil) (cb_lenS (by omega))) ev_int) (congrArg PyData.bool (chain2 (decide_eq_true (by omega)) (decide_eq_true (by omega))))) (ev_allT (n := g.length) (eo_lc _ (wk_str (ev_var rfl)) rfl (by rw [List.length_replicate, hl]) (by rw [List.length_replicate]; omega) fun i d z hd hz => ?_))))
    cases rep_get hz
    obtain ⟨c, hc, rfl⟩ := strD_get hd
    exact ⟨_, _, tg_name, fun j hj => hj, ev_is (ev_op (ev_var rfl) ev_str od_sign) (congrArg PyData.bool (decide_eq_true (hg.low c hc)))⟩
inductive R_check_context : Con
  | mk {g : Str} {m : Int} : GtOk g → MoOk m → R_check_context [dCtx g m] (.ret .none)
theorem bd_check_context {K : PySem.W.Frag} (E : XK) (ds : List PyData) (o : Out) (h : R_check_context ds o) : Bd K E (t_check_context K E R_is_gate_name) (ro N_check_context ds) o := by
  cases h with
  | mk hg hm =>
    obtain ⟨h1, h2⟩ := hm
    exact bd_none (ex_seq (ex_asg (ev_var rfl) (tg_tup (tgs_cons tg_name (tgs_cons tg_name tgs_nil)) rfl))
      (ex_ifF (eb_orF (eb_notF (eb_B (ev_call (ea_cons (ev_var rfl) ea_nil) (.mk hg)))) (eb_orF (eb_F (ei_lt (ev_var rfl) ev_int) (decide_eq_false (by omega))) (eb_F (ei_gt (ev_var rfl) ev_int) (decide_eq_false (by omega))))) ex_next))
/-- the numbers of a stage -/
def sn (m : Int) (ps : List Pr) : List Int := m :: (ps.length : Int) :: ps.map ixP
structure StOk (g : Str) (m : Int) (ps : List Pr) : Prop where
  gt : GtOk g
  mo : MoOk m
  set : SetOk ps
  len : ps.length ≤ 25
  pos : 0 < ps.length
inductive R_stage_numbers : Con
  | mk {g : Str} {m : Int} {ps : List Pr} : StOk g m ps → R_stage_numbers [dCtx g m, dPs ps] (.ret (.list ((sn m ps).map .int)))
theorem bd_stage_numbers {K : PySem.W.Frag} (E : XK) (ds : List PyData) (o : Out) (h : R_stage_numbers ds o) : Bd K E (t_stage_numbers K E R_check_context R_check_set R_index_of) (ro N_stage_numbers ds) o := by
  cases h with
  | @mk g m ps hs =>
    have hl := hs.len
    refine bd_ret (ex_seq (ex_drop (ev_call (ea_cons (ev_var rfl) ea_nil) (.mk hs.gt hs.mo)))
      (ex_seq (ex_drop (ev_call (ea_cons (ev_var rfl) ea_nil) (.mk hs.set)))
      (ex_ret (ev_is (ev_rest (eo_op (ev_rest (eo_lst (ea_cons (ev_op (ev_var rfl) ev_int (od_ixT rfl)) (ea_cons (ev_cb (ea_cons (ev_var rfl) ea_nil) cb_lenL) ea_nil)) (len_le rfl))) (ev_rest (eo_lc (ps.map fun p => .int (ixP p)) (ws_list (ev_var rfl)) rfl (by simp) (by rw [List.length_map]; omega) fun i d z hd hz => ?_)) (oo_cat ?_))) ?_))))
    · obtain ⟨p, h1, rfl⟩ := map_get hd
      obtain ⟨p', h2, rfl⟩ := map_get hz
      rw [h1] at h2
      cases h2
      exact ⟨_, _, tg_name, fun j hj => hj, ev_call (ea_cons (ev_var rfl) ea_nil) (.mk (hs.set.1 p (List.mem_of_getElem? h1)))⟩
    · show 2 + (ps.map fun p => PyData.int (ixP p)).length ≤ _
      rw [List.length_map]
      omega
    · unfold sn
      rw [List.map_cons, List.map_cons, List.map_map, List.length_map]
      rfl
theorem ixP_b {p : Pr} (h : PrOk p) : 0 ≤ ixP p ∧ ixP p < 25 := by
  obtain ⟨⟨h1, h2⟩, h3, h4⟩ := h
  unfold ixP
  omega
theorem sm_sn {g : Str} {m : Int} {ps : List Pr} (h : StOk g m ps) : Sm (sn m ps) := by
  obtain ⟨h1, h2⟩ := h.mo
  have h3 := h.len
  intro n hn
  unfold sn at hn
  rcases List.mem_cons.mp hn with rfl | hn
  · omega
  rcases List.mem_cons.mp hn with rfl | hn
  · omega
  obtain ⟨p, hp, rfl⟩ := List.mem_map.mp hn
  have := ixP_b (h.set.1 p hp)
  omega
theorem sn_len {m : Int} {ps : List Pr} : (sn m ps).length = ps.length + 2 := by unfold sn; rw [List.length_cons, List.length_cons, List.length_map]
/-- the challenge of a stage -/
def stc (q : Int) (g : Str) (m : Int) (ps : List Pr) : Int := chal q (("show " : Str) ++ g) (sn m ps)
theorem show_len : ("show " : Str).length = 5 := by decide +kernel
inductive R_stage_challenge : Con
  | mk {q : Int} {a : Nat → Int} {g : Str} {m : Int} {ps : List Pr} : Ord q → StOk g m ps → R_stage_challenge [dSet q a, dCtx g m, dPs ps] (.ret (.int (stc q g m ps)))
theorem bd_stage_challenge {K : PySem.W.Frag} (E : XK) (ds : List PyData) (o : Out) (h : R_stage_challenge ds o) : Bd K E (t_stage_challenge K E R_stage_numbers R_challenge_of) (ro N_stage_challenge ds) o := by
  cases h with
  | @mk q a g m ps hq hs =>
    have h1 := hs.gt.hi
    have h2 := hs.len
    refine bd_ret (ex_seq (ex_set (ev_call (ea_cons (ev_var rfl) (ea_cons (ev_var rfl) ea_nil)) (.mk hs)))
      (ex_ret (ev_call (ea_cons (ev_op (ev_var rfl) ev_int (od_ixT rfl)) (ea_cons (ev_op ev_str (ev_op (ev_var rfl) ev_int (od_ixT rfl)) (od_addS ?_)) (ea_cons (ev_var rfl) ea_nil))) (.mk hq ?_ ?_ (sm_sn hs)))))
    · rw [show_len]; omega
    · rw [str_app_len, show_len]; omega
    · rw [sn_len]; omega
/-- the base of a pair -/
def bsP (a : Nat → Int) (p : Pr) : Int := dot [a 1, a 3, a 4] [1, p.1, p.2]
abbrev bsL (a : Nat → Int) (ps : List Pr) : List Int := ps.map (bsP a)
inductive R_choice_of : Con
  | mk {q : Int} {a : Nat → Int} {t : Tk} {ps : List Pr} : Ord q → SetOk ps → ps.length ≤ 25 → 0 < ps.length → R_choice_of [dSet q a, dTk q t, dPs ps] (.ret (dCh q t.A (a 2) (bsL a ps)))
theorem bd_choice_of {K : PySem.W.Frag} (E : XK) (ds : List PyData) (o : Out) (h : R_choice_of ds o) : Bd K E (t_choice_of K E R_check_set R_is_element R_product_of_powers) (ro N_choice_of ds) o := by
  cases h with
  | @mk q a t ps hq hs hl hp =>
    refine bd_ret (ex_seq (ex_drop (ev_call (ea_cons (ev_var rfl) ea_nil) (.mk hs)))
      (ex_seq (ex_asg (ev_var rfl) (tg_tup (tgs_cons tg_name (tgs_cons tg_name tgs_nil)) rfl))
      (ex_seq (ex_ifF (eb_orF (eb_F (ei_eq (ev_cb (ea_cons (ev_var rfl) ea_nil) cb_lenL) ev_int) (decide_eq_false (by rw [List.length_map]; omega))) (eb_notF (eb_B (ev_call (ea_cons (ev_var rfl) (ea_cons (ev_op (ev_var rfl) ev_int (od_ixT rfl)) ea_nil)) (.mk hq))))) ex_next)
      (ex_seq (ex_setO (eo_lst ea_nil (len_le rfl)))
      (ex_seq (ex_for (fun i => [.dat (dSet q a), .dat (dTk q t), .dat (dPs ps), .own ((ps.take i).map fun p => dCl q t.A (bsP a p) (a 2)), .dat (.int q), .dat (.tuple [.int (G q (a 0)), .int (G q (a 1)), .int (G q (a 2)), .int (G q (a 3)), .int (G q (a 4))]), .no, .no, .no]) (ws_list (ev_var rfl)) (by rw [List.take_zero]; rfl) fun i d hd => ?_)
      (ex_rest (j := 3) rfl (ex_ret (ev_is (ev_cb (ea_cons (ev_var rfl) ea_nil) cb_tupL) ?_))))))))
    · obtain ⟨p, h1, rfl⟩ := map_get hd
      refine ⟨_, _, (tg_tup (tgs_cons tg_name (tgs_cons tg_name tgs_nil)) rfl), ex_forget 8 (ex_forget 7 (ex_forget 6 (ex_seq (ex_set (ev_call (ea_cons (ev_var rfl) (ea_cons (ev_rest (eo_lst (ea_cons (ev_op (ev_var rfl) ev_int (od_ixT rfl)) (ea_cons (ev_op (ev_var rfl) ev_int (od_ixT rfl)) (ea_cons (ev_op (ev_var rfl) ev_int (od_ixT rfl)) ea_nil))) (len_le rfl))) (ea_cons (ev_rest (eo_lst (ea_cons ev_int (ea_cons (ev_var rfl) (ea_cons (ev_var rfl) ea_nil))) (len_le rfl))) ea_nil))) (.mk (ks := [a 1, a 3, a 4]) (es := [1, p.1, p.2]) hq rfl)))
      (ex_append rfl (ev_tup (ea_cons ev_int (ea_cons (ev_tup (ea_cons (ev_tup (ea_cons (ev_op (ev_var rfl) ev_int (od_ixT rfl)) (ea_cons (ev_tup (ea_cons (ev_var rfl) (ea_cons (ev_op (ev_var rfl) ev_int (od_ixT rfl)) ea_nil)) (len_le rfl)) ea_nil)) (len_le rfl)) ea_nil) (len_le rfl)) ea_nil)) (len_le rfl)) ?_)) rfl) rfl) ?_⟩
      · rw [List.length_map]
        have := List.length_take_le' i ps
        omega
      · rw [List.take_add_one, h1, List.map_append]
        rfl
    · rw [List.length_map, List.take_length]
      unfold dCh
      rw [List.map_map]
      rfl
/-- the numbers of a paper -/
def pn (q m : Int) (ps : List Pr) (t : Tk) (s : Sd) : List Int := ((sn m ps ++ [G q t.A, G q t.B, G q t.z, G q t.a, G q t.b, t.r]) ++ [s.d]) ++ [s.r0, s.r1, s.r2, s.r3]
def ptx (q : Int) (g : Str) (m : Int) (ps : List Pr) (t : Tk) (s : Sd) : Str := jt (("paper " : Str) ++ g) (pn q m ps t s)
theorem rg_sm {q x : Int} (h : Ord q) (hx : Rg q x) : x.natAbs < 10 ^ 9 := by
  have := h.hi
  obtain ⟨h1, h2⟩ := hx
  omega
theorem sm_pn {q : Int} {g : Str} {m : Int} {ps : List Pr} {t : Tk} {s : Sd} (hq : Ord q) (h : StOk g m ps) (ht : Rg q t.r) (hs : SdOk q s) : Sm (pn q m ps t s) := by
  refine sm_app (sm_app (sm_app (sm_sn h) ?_) ?_) ?_
  · intro n hn
    simp only [List.mem_cons, List.not_mem_nil, or_false] at hn
    rcases hn with rfl | rfl | rfl | rfl | rfl | rfl
    · exact sm_G hq _
    · exact sm_G hq _
    · exact sm_G hq _
    · exact sm_G hq _
    · exact sm_G hq _
    · exact rg_sm hq ht
  · intro n hn
    rw [List.mem_singleton.mp hn]
    exact rg_sm hq hs.d
  · intro n hn
    simp only [List.mem_cons, List.not_mem_nil, or_false] at hn
    rcases hn with rfl | rfl | rfl | rfl
    · exact rg_sm hq hs.r0
    · exact rg_sm hq hs.r1
    · exact rg_sm hq hs.r2
    · exact rg_sm hq hs.r3
theorem pn_len {q m : Int} {ps : List Pr} {t : Tk} {s : Sd} : (pn q m ps t s).length = ps.length + 13 := by
  unfold pn
  rw [List.length_append, List.length_append, List.length_append, sn_len]
  rfl
theorem ptx_len {q : Int} {g : Str} {m : Int} {ps : List Pr} {t : Tk} {s : Sd} (hq : Ord q) (h : StOk g m ps) (ht : Rg q t.r) (hs : SdOk q s) : (ptx q g m ps t s).length ≤ 50000 := by
  have h1 := jt_len (w := ("paper " : Str) ++ g) (sm_pn hq h ht hs)
  rw [pn_len, str_app_len, paper_len] at h1
  have h2 := h.gt.hi
  have h3 := h.len
  unfold ptx
  omega
inductive R_paper_text : Con
  | mk {q m : Int} {g : Str} {ps : List Pr} {t : Tk} {s : Sd} : Ord q → StOk g m ps → Rg q t.r → SdOk q s → R_paper_text [dCtx g m, dPs ps, dTk q t, dSd s] (.ret (.str (ptx q g m ps t s)))
theorem bd_paper_text {K : PySem.W.Frag} (E : XK) (ds : List PyData) (o : Out) (h : R_paper_text ds o) : Bd K E (t_paper_text K E R_stage_numbers R_joined_text) (ro N_paper_text ds) o := by
  cases h with
  | @mk q m g ps t s hq hs ht hd =>
    have h1 := hs.gt.hi
    have h2 := hs.len
    have h3 : ((sn m ps).map PyData.int).length = ps.length + 2 := by rw [List.length_map, sn_len]
    refine bd_ret (ex_seq (ex_set (ev_call (ea_cons (ev_var rfl) (ea_cons (ev_var rfl) ea_nil)) (.mk hs)))
      (ex_seq (ex_set (ev_is (ev_rest (eo_op (ev_rest (eo_op (ev_rest (eo_op (ev_var rfl) (ev_rest (eo_cb (ea_cons (ev_var rfl) ea_nil) co_listT)) (oo_cat ?_))) (ev_rest (eo_lst (ea_cons (ev_op (ev_var rfl) ev_int (od_ixT rfl)) ea_nil) (len_le rfl))) (oo_cat ?_))) (ev_rest (eo_cb (ea_cons (ev_op (ev_var rfl) ev_int (od_ixT rfl)) ea_nil) co_listT)) (oo_cat ?_))) (?_ : _ = .list ((pn q m ps t s).map .int))))
      (ex_ret (ev_call (ea_cons (ev_op ev_str (ev_op (ev_var rfl) ev_int (od_ixT rfl)) (od_addS ?_)) (ea_cons (ev_var rfl) ea_nil)) (.mk ?_ ?_ (sm_pn hq hs ht hd))))))
    · rw [h3]
      show _ + 6 ≤ _
      omega
    · rw [List.length_append, h3]
      show _ + 6 + 1 ≤ _
      omega
    · rw [List.length_append, List.length_append, h3]
      show _ + 6 + 1 + 4 ≤ _
      omega
    · unfold pn
      rw [List.map_append, List.map_append, List.map_append]
      rfl
    · rw [paper_len]; omega
    · rw [str_app_len, paper_len]; omega
    · rw [pn_len]; omega
end Ck

/-! What make_showing, check_showing and explain_showing hand back. -/
namespace Ck
open PySem PySem.Spec PyProof.Rows L2

theorem dPair_inj {p w : Pr} (h : dPair p = dPair w) : p = w := by
  obtain ⟨a, b⟩ := p
  obtain ⟨c, d⟩ := w
  unfold dPair at h
  injection h with h
  injection h with h1 h
  injection h with h2 h
  injection h1 with h1
  injection h2 with h2
  rw [show a = c from h1, show b = d from h2]
theorem pl_dPair {n : Nat} {p : Pr} : Pl (n + 1) (dPair p) := pl_tup (pl_cons pl_int (pl_cons pl_int pl_nil))
theorem pl_dPs {n : Nat} {ps : List Pr} : ∀ z ∈ ps.map dPair, Pl (n + 1) z := pl_map fun _ _ => pl_dPair
theorem mem_dPs {w : Pr} {ps : List Pr} : dPair w ∈ ps.map dPair ↔ w ∈ ps := by
  constructor
  · intro h
    obtain ⟨p, hp, e⟩ := List.mem_map.mp h
    rw [← dPair_inj e]
    exact hp
  · exact fun h => List.mem_map.mpr ⟨w, h, rfl⟩
theorem idx_ok {ps : List Pr} {i : Nat} {w : Pr} (hs : SetOk ps) (hi : ps[i]? = some w) (m : Nat) (hm : m < i) : (ps.map dPair)[m]? ≠ some (dPair w) := fun e => by
  obtain ⟨w', h1, h2⟩ := map_get e
  have h3 := dPair_inj h2
  subst h3
  obtain ⟨l1, e1⟩ := List.getElem?_eq_some_iff.mp h1
  obtain ⟨l2, e2⟩ := List.getElem?_eq_some_iff.mp hi
  have := List.pairwise_iff_getElem.mp hs.2 m i l1 l2 hm
  rw [e1, e2] at this
  omega
theorem get_dPs {ps : List Pr} {i : Nat} {w : Pr} (hi : ps[i]? = some w) : (ps.map dPair)[i]? = some (dPair w) := by rw [List.getElem?_map, hi] <;> rfl
theorem ev_pass {K : PySem.W.Frag} {r : Ro} {te : TE} {p : Tri} (h : EvD te r (dPn p)) : EvD (tSl (rSlA K) te (tPart (tC (.int 1))) tNoPart) r (dPair p.2) := ev_is (ev_slT h (ep_some ev_int) ep_none) (congrArg PyData.tuple drop1)
/-- a showing -/
def dSho (q : Int) (t : Tk) (s : Sd) (ws : List Tri) : PyData := .tuple [dTk q t, dSd s, dPa ws]
/-- the paper of a showing -/
def shP (q : Int) (a : Nat → Int) (g : Str) (m : Int) (ps : List Pr) (p : Tri) (t : Tk) (b : Bl) (i : Nat) (ns : List Tri) (n : Tri) : List Tri :=
  mkP q (ptx q g m ps t (spd q p b (stc q g m ps))) t.A (a 2) (bsL a ps) i b.s (b.s * p.1 % q) ns n
theorem spd_ok {q : Int} {p : Tri} {b : Bl} {d : Int} (hq : Ord q) (hd : Rg q d) : SdOk q (spd q p b d) where
  d := hd
  r0 := rg_mod hq _
  r1 := rg_mod hq _
  r2 := rg_mod hq _
  r3 := rg_mod hq _
theorem stc_rg {q : Int} {g : Str} {m : Int} {ps : List Pr} (hq : Ord q) : Rg q (stc q g m ps) := ⟨by have := chal_lo hq (("show " : Str) ++ g) (sn m ps); unfold stc; omega, chal_hi hq _ _⟩
theorem get_bsL {a : Nat → Int} {ps : List Pr} {i : Nat} {w : Pr} (hi : ps[i]? = some w) : (bsL a ps)[i]? = some (bsP a w) := by unfold bsL; rw [List.getElem?_map, hi] <;> rfl
inductive R_make_showing : Con
  | mk {q m : Int} {a : Nat → Int} {g : Str} {ps : List Pr} {p : Tri} {t : Tk} {b : Bl} {i : Nat} {ns : List Tri} {n : Tri} : Ord q → StOk g m ps → PnOk q p → Rg q t.r → BlOk q b → ps[i]? = some p.2 → ns.length = ps.length → (∀ x ∈ ns, Rg3 q x) → ns[i]? = some n → n.1 = 0 →
      G q (dot [bsP a p.2, a 2] [b.s, b.s * p.1 % q]) = G q t.A → R_make_showing [dSet q a, dPn p, dTk q t, dBl b, dCtx g m, dPs ps, dPa ns] (.ret (dSho q t (spd q p b (stc q g m ps)) (shP q a g m ps p t b i ns n)))
theorem bd_make_showing {K : PySem.W.Frag} (E : XK) (ds : List PyData) (o : Out) (h : R_make_showing ds o) : Bd K E (t_make_showing K E R_stage_challenge R_spend_of R_choice_of R_paper_text R_make_paper) (ro N_make_showing ds) o := by
  cases h with
  | @mk q m a g ps p t b i ns n hq hst hp ht hb hi hnl hnr hni hn0 hG =>
    have h1 := hq.lo
    have h2 := hq.hi
    have hl := hst.len
    have hd := spd_ok (p := p) (b := b) hq (stc_rg (g := g) (m := m) (ps := ps) hq)
    obtain ⟨s1, s2⟩ := id hb.s
    refine bd_ret (ex_seq (ex_set (ev_call (ea_cons (ev_var rfl) (ea_cons (ev_var rfl) (ea_cons (ev_var rfl) ea_nil))) (.mk hq hst)))
      (ex_seq (ex_ifF (eb_niF (n := 1) (by decide) (ev_pass (ev_var rfl)) (ev_var rfl) pl_dPair pl_dPs (mem_dPs.mpr (List.mem_of_getElem? hi))) ex_next)
      (ex_seq (ex_set (ev_call (ea_cons (ev_var rfl) (ea_cons (ev_var rfl) (ea_cons (ev_var rfl) (ea_cons (ev_var rfl) ea_nil)))) (.mk hq hp hb (stc_rg hq))))
      (ex_seq (ex_set (ev_call (ea_cons (ev_var rfl) (ea_cons (ev_var rfl) (ea_cons (ev_var rfl) ea_nil))) (.mk hq hst.set hl hst.pos)))
      ?_))))
    simp only [ro, List.map_cons, List.map_nil, List.length_cons, List.length_nil, Nat.reduceAdd, Nat.reduceSub, List.replicate_succ, List.replicate_zero, List.cons_append, List.nil_append, List.set_cons_succ, List.set_cons_zero]
    refine (ex_seq (ex_set (ev_tup (ea_cons (ev_op (ev_var rfl) ev_int (od_ixT rfl)) (ea_cons (ei_mod (ei_mul (ev_op (ev_var rfl) ev_int (od_ixT rfl)) (ev_op (ev_var rfl) ev_int (od_ixT rfl)) (mulL (by omega) (by omega))) (ev_op (ev_var rfl) ev_int (od_ixT rfl)) (by omega)) ea_nil)) (len_le rfl)))
      (ex_seq (ex_set (ev_call (ea_cons (ev_var rfl) (ea_cons (ev_var rfl) (ea_cons (ev_var rfl) (ea_cons (ev_var rfl) ea_nil)))) (.mk hq hst ht hd)))
      ?_))
    simp only [ro, List.map_cons, List.map_nil, List.length_cons, List.length_nil, Nat.reduceAdd, Nat.reduceSub, List.replicate_succ, List.replicate_zero, List.cons_append, List.nil_append, List.set_cons_succ, List.set_cons_zero]
    exact (ex_seq (ex_set (ev_call (ea_cons (ev_op (ev_var rfl) ev_int (od_ixT rfl)) (ea_cons (ev_var rfl) (ea_cons (ev_var rfl) (ea_cons (ev_indexP (n := 1) (by decide) (ev_var rfl) (ev_pass (ev_var rfl)) pl_dPs (get_dPs hi) (idx_ok hst.set hi)) (ea_cons (ev_var rfl) (ea_cons (ev_var rfl) ea_nil))))))
      (.mk (bs := bsL a ps) hq (ptx_len hq hst ht hd) (by rw [List.length_map]; omega) (by rw [List.length_map]; exact hnl) hnr (get_bsL hi) hni hn0 hb.s (rg_mod hq _) hG)))
      (ex_ret (ev_tup (ea_cons (ev_var rfl) (ea_cons (ev_var rfl) (ea_cons (ev_var rfl) ea_nil))) (len_le rfl))))
/-- a showing that passes -/
structure ShOk (q : Int) (a : Nat → Int) (h : Int) (g : Str) (m : Int) (ps : List Pr) (t : Tk) (s : Sd) (ws : List Tri) : Prop where
  st : StOk g m ps
  tk : TkOk q a h t
  sd : SdOk q s
  sp : G q (dot [a 1, a 2, a 3, a 4] [s.r0, s.r1, s.r2, s.r3]) = G q (t.A * s.d + t.B)
  d : s.d = stc q g m ps
  len : ws.length = ps.length
  rg : ∀ x ∈ ws, Rg3 q x
  sum : (soth (-1) ws - callV q (ptx q g m ps t s) t.A (a 2) (bsL a ps) ws) % q = 0
inductive R_check_showing : Con
  | mk {q h m : Int} {a : Nat → Int} {g : Str} {ps : List Pr} {t : Tk} {s : Sd} {ws : List Tri} : Ord q → ShOk q a h g m ps t s ws → R_check_showing [dSet q a, .int (G q h), dCtx g m, dPs ps, dSho q t s ws] (.ret .none)
theorem bd_check_showing {K : PySem.W.Frag} (E : XK) (ds : List PyData) (o : Out) (h : R_check_showing ds o) : Bd K E (t_check_showing K E R_stage_challenge R_is_ticket R_is_spend R_paper_text R_choice_of R_check_paper) (ro N_check_showing ds) o := by
  cases h with
  | @mk q h m a g ps t s ws hq hs =>
    have hst := hs.st
    have hl := hst.len
    have hp := hst.pos
    exact bd_none (ex_seq (ex_set (ev_call (ea_cons (ev_var rfl) (ea_cons (ev_var rfl) (ea_cons (ev_var rfl) ea_nil))) (.mk hq hst)))
      (ex_seq (ex_ifF (eb_F (ei_eq (ev_cb (ea_cons (ev_var rfl) ea_nil) cb_lenL) ev_int) (decide_eq_false (by rw [List.length_map]; omega))) ex_next)
      (ex_seq (ex_asg (ev_var rfl) (tg_tup (tgs_cons tg_name (tgs_cons tg_name (tgs_cons tg_name tgs_nil))) rfl))
      (ex_seq (ex_ifF (eb_notF (eb_B (ev_call (ea_cons (ev_var rfl) (ea_cons (ev_var rfl) (ea_cons (ev_var rfl) ea_nil))) (.mk hq hs.tk)))) ex_next)
      (ex_seq (ex_ifF (eb_orF (eb_F (ei_ne (ev_op (ev_var rfl) ev_int (od_ixT rfl)) (ev_var rfl)) (by rw [decide_eq_true hs.d]; rfl)) (eb_notF (eb_B (ev_call (ea_cons (ev_var rfl) (ea_cons (ev_var rfl) (ea_cons (ev_var rfl) ea_nil))) (.mk hq hs.sd hs.sp))))) ex_next)
      (ex_seq (ex_set (ev_call (ea_cons (ev_var rfl) (ea_cons (ev_var rfl) (ea_cons (ev_var rfl) (ea_cons (ev_var rfl) ea_nil)))) (.mk hq hst hs.tk.r hs.sd)))
      (ex_drop (ev_call (ea_cons (ev_op (ev_var rfl) ev_int (od_ixT rfl)) (ea_cons (ev_var rfl) (ea_cons (ev_call (ea_cons (ev_var rfl) (ea_cons (ev_var rfl) (ea_cons (ev_var rfl) ea_nil))) (.mk hq hst.set hl hp)) (ea_cons (ev_var rfl) ea_nil)))) (.mk (bs := bsL a ps) hq (ptx_len hq hst hs.tk.r hs.sd) (by rw [List.length_map]; omega) (by rw [List.length_map]; exact hs.len) hs.rg hs.sum)))))))))
inductive R_explain_showing : Con
  | mkOut {q h m c r : Int} {a : Nat → Int} {g : Str} {ps : List Pr} {p f : Tri} {t : Tk} {s : Sd} {ws : List Tri} : Ord q → ShOk q a h g m ps t s ws → ¬ p.2 ∈ ps → R_explain_showing [dSet q a, .int (G q h), dRec q p f c r, dCtx g m, dPs ps, dSho q t s ws] (.ret .none)
  | mkN {q h m c r : Int} {a : Nat → Int} {g : Str} {ps : List Pr} {p f : Tri} {t : Tk} {s : Sd} {ws : List Tri} : Ord q → ShOk q a h g m ps t s ws → p.2 ∈ ps → R_explain_ticket [dSet q a, .int (G q h), dRec q p f c r, dTk q t, dSd s] (.ret .none) →
      R_explain_showing [dSet q a, .int (G q h), dRec q p f c r, dCtx g m, dPs ps, dSho q t s ws] (.ret .none)
  | mk {q h m c r : Int} {a : Nat → Int} {g : Str} {ps : List Pr} {p f : Tri} {t : Tk} {s : Sd} {ws : List Tri} {b : Bl} {w : Tri} {i : Nat} : Ord q → ShOk q a h g m ps t s ws → ps[i]? = some p.2 → R_explain_ticket [dSet q a, .int (G q h), dRec q p f c r, dTk q t, dSd s] (.ret (dBl b)) → Rg q b.s → Rg q p.1 →
      ws[i]? = some w → G q (dot [bsP a p.2, a 2] [b.s, b.s * p.1 % q]) = G q t.A →
      R_explain_showing [dSet q a, .int (G q h), dRec q p f c r, dCtx g m, dPs ps, dSho q t s ws] (.ret (.tuple [dBl b, dPa (exP q i b.s (b.s * p.1 % q) ws w)]))
theorem bd_explain_showing {K : PySem.W.Frag} (E : XK) (ds : List PyData) (o : Out) (h : R_explain_showing ds o) : Bd K E (t_explain_showing K E R_check_showing R_explain_ticket R_choice_of R_paper_text R_explain_paper) (ro N_explain_showing ds) o := by
  cases h with
  | @mkOut q h m c r a g ps p f t s ws hq hs hi =>
    exact bd_ret (ex_seq (ex_drop (ev_call (ea_cons (ev_var rfl) (ea_cons (ev_var rfl) (ea_cons (ev_var rfl) (ea_cons (ev_var rfl) (ea_cons (ev_var rfl) ea_nil))))) (.mk hq hs)))
      (ex_seq (ex_set (ev_op (ev_var rfl) ev_int (od_ixT rfl)))
      (ex_stop (ex_ifT (eb_niT (n := 1) (by decide) (ev_pass (ev_var rfl)) (ev_var rfl) pl_dPair pl_dPs fun e => hi (mem_dPs.mp e)) (ex_ret ev_non)) trivial)))
  | @mkN q h m c r a g ps p f t s ws hq hs hi he =>
    exact bd_ret (ex_seq (ex_drop (ev_call (ea_cons (ev_var rfl) (ea_cons (ev_var rfl) (ea_cons (ev_var rfl) (ea_cons (ev_var rfl) (ea_cons (ev_var rfl) ea_nil))))) (.mk hq hs)))
      (ex_seq (ex_set (ev_op (ev_var rfl) ev_int (od_ixT rfl)))
      (ex_seq (ex_ifF (eb_niF (n := 1) (by decide) (ev_pass (ev_var rfl)) (ev_var rfl) pl_dPair pl_dPs (mem_dPs.mpr hi)) ex_next)
      (ex_seq (ex_asg (ev_var rfl) (tg_tup (tgs_cons tg_name (tgs_cons tg_name (tgs_cons tg_name tgs_nil))) rfl))
      (ex_seq (ex_set (ev_call (ea_cons (ev_var rfl) (ea_cons (ev_var rfl) (ea_cons (ev_var rfl) (ea_cons (ev_var rfl) (ea_cons (ev_var rfl) ea_nil))))) he))
      (ex_stop (ex_ifT (eb_T (ev_op (ev_var rfl) ev_non od_isN) rfl) (ex_ret ev_non)) trivial))))))
  | @mk q h m c r a g ps p f t s ws b w i hq hs hi he hb hp hw hG =>
    have h1 := hq.lo
    have h2 := hq.hi
    have hst := hs.st
    have hl := hst.len
    obtain ⟨s1, s2⟩ := id hb
    refine bd_ret (ex_seq (ex_drop (ev_call (ea_cons (ev_var rfl) (ea_cons (ev_var rfl) (ea_cons (ev_var rfl) (ea_cons (ev_var rfl) (ea_cons (ev_var rfl) ea_nil))))) (.mk hq hs)))
      (ex_seq (ex_set (ev_op (ev_var rfl) ev_int (od_ixT rfl)))
      (ex_seq (ex_ifF (eb_niF (n := 1) (by decide) (ev_pass (ev_var rfl)) (ev_var rfl) pl_dPair pl_dPs (mem_dPs.mpr (List.mem_of_getElem? hi))) ex_next)
      (ex_seq (ex_asg (ev_var rfl) (tg_tup (tgs_cons tg_name (tgs_cons tg_name (tgs_cons tg_name tgs_nil))) rfl))
      ?_))))
    simp only [ro, List.map_cons, List.map_nil, List.length_cons, List.length_nil, Nat.reduceAdd, Nat.reduceSub, List.replicate_succ, List.replicate_zero, List.cons_append, List.nil_append, List.set_cons_succ, List.set_cons_zero]
    refine (ex_seq (ex_set (ev_call (ea_cons (ev_var rfl) (ea_cons (ev_var rfl) (ea_cons (ev_var rfl) (ea_cons (ev_var rfl) (ea_cons (ev_var rfl) ea_nil))))) he))
      (ex_seq (ex_ifF (eb_F (ev_op (ev_var rfl) ev_non od_isN) rfl) ex_next)
      (ex_seq (ex_set (ev_call (ea_cons (ev_var rfl) (ea_cons (ev_var rfl) (ea_cons (ev_var rfl) ea_nil))) (.mk hq hst.set hl hst.pos)))
      (ex_seq (ex_set (ev_tup (ea_cons (ev_op (ev_var rfl) ev_int (od_ixT rfl)) (ea_cons (ei_mod (ei_mul (ev_op (ev_var rfl) ev_int (od_ixT rfl)) (ev_op (ev_var rfl) ev_int (od_ixT rfl)) (mulL (by omega) (by omega))) (ev_op (ev_var rfl) ev_int (od_ixT rfl)) (by omega)) ea_nil)) (len_le rfl)))
      ?_))))
    simp only [ro, List.map_cons, List.map_nil, List.length_cons, List.length_nil, Nat.reduceAdd, Nat.reduceSub, List.replicate_succ, List.replicate_zero, List.cons_append, List.nil_append, List.set_cons_succ, List.set_cons_zero]
    refine (ex_seq (ex_set (ev_call (ea_cons (ev_var rfl) (ea_cons (ev_var rfl) (ea_cons (ev_var rfl) (ea_cons (ev_var rfl) ea_nil)))) (.mk hq hst hs.tk.r hs.sd)))
      ?_)
    simp only [ro, List.map_cons, List.map_nil, List.length_cons, List.length_nil, Nat.reduceAdd, Nat.reduceSub, List.replicate_succ, List.replicate_zero, List.cons_append, List.nil_append, List.set_cons_succ, List.set_cons_zero]
    exact (ex_seq (ex_set (ev_call (ea_cons (ev_op (ev_var rfl) ev_int (od_ixT rfl)) (ea_cons (ev_var rfl) (ea_cons (ev_var rfl) (ea_cons (ev_var rfl) (ea_cons (ev_indexP (n := 1) (by decide) (ev_var rfl) (ev_pass (ev_var rfl)) pl_dPs (get_dPs hi) (idx_ok hst.set hi)) (ea_cons (ev_var rfl) ea_nil))))))
      (.mk (bs := bsL a ps) hq (ptx_len hq hst hs.tk.r hs.sd) (by rw [List.length_map]; omega) (by rw [List.length_map]; exact hs.len) hs.rg hs.sum (get_bsL hi) hw hb (rg_mod hq _) hG)))
      (ex_ret (ev_tup (ea_cons (ev_var rfl) (ea_cons (ev_var rfl) ea_nil)) (len_le rfl))))
end Ck

/-! What the law's own row gives. -/
namespace Ck
open PySem PySem.Spec PyProof.Rows L2

/-! ### a list that nobody changes, in slot 0 -/
theorem sq_same {K : PySem.W.Frag} {m H : Hp} {p : Addr} {xs : List L2.V} (s : Same m H) (h : SqL K m p xs) : SqL K H p xs := by
  rcases h with (h | ⟨o, h⟩) | h
  · exact .inl (.inl (s _ _ h))
  · exact .inl (.inr ⟨o, s _ _ h⟩)
  · exact .inr h
section
variable {K : PySem.W.Frag} {r : Ro} {p : Addr} {m : Hp} {ns : List Int}
theorem ev_scrLen (h0 : r[0]? = some (.frz (.ref p) m)) (hS : SqL K m p (ns.map V.int)) : EvD (tCB (cLen K) (tCons (tVar 0) tNil)) r (.int ns.length) := fun M0 H0 σ M H R Q q => by
  obtain ⟨h1, h2⟩ := R.frz 0 _ _ h0
  refine ⟨_, h1, _, (ns.map V.int).length, rfl, .inl ⟨_, sq_same (h2.trans R.g.s) hS, rfl⟩, ?_⟩
  rw [List.length_map]
  exact q _ M H (Grow.refl R.g.s) (.int _)
theorem ev_scrIx {i : Nat} {n : Int} (h0 : r[0]? = some (.frz (.ref p) m)) (hS : SqL K m p (ns.map V.int)) (h2 : r[2]? = some (.dat (.int (i : Nat)))) (hn : ns[i]? = some n) : EvD (tOp (rIx K) (tVar 0) (tVar 2)) r (.int n) := fun M0 H0 σ M H R Q q => by
  obtain ⟨k1, k2⟩ := R.frz 0 _ _ h0
  obtain ⟨v, k3, k4⟩ := R.dat 2 _ h2
  cases k4
  have e : atI (ns.map V.int) (i : Int) = some (V.int n) := atI_nat (by rw [List.getElem?_map, hn] <;> rfl)
  exact ⟨_, k1, _, k3, .inl ⟨p, _, (i : Int), V.int n, rfl, rfl, sq_same (k2.trans R.g.s) hS, e, q _ M H (Grow.refl R.g.s) (.int _)⟩⟩
end
/-! ### the row -/
abbrev LS : Type := Int × List Int
def digS (x : LS) : LS := if 0 < x.1 then (x.1 / 1009, x.2 ++ [x.1 % 1009]) else x
def hshS (k : Nat) (x : LS) : LS := ((x.1 * 16807 + 11 * (k : Int) + 1) % 2147483647, x.2 ++ [(x.1 * 16807 + 11 * (k : Int) + 1) % 2147483647 / 7 % 1009])
def hshN : Nat → LS → LS
  | 0, x => x
  | k + 1, x => hshS k (hshN k x)
def iabs (n : Int) : Int := if n < 0 then -n else n
def h0F (i : Nat) (n : Int) : Int := (iabs n * 48271 + (i : Int) * 69621 + 12345) % 2147483647
def celF (i : Nat) (n : Int) (l : List Int) : List Int := if 10 ^ 18 ≤ iabs n then (itn digS 40 (iabs n, l)).2 else (hshN 6 (h0F i n, l)).2
def rowU (ns : List Int) : Nat → List Int
  | 0 => []
  | i + 1 => celF i (ns.getD i 0) (rowU ns i)
def rowF (ns : List Int) : List Int := rowU ns ns.length
def LOk (k : Nat) (l : List Int) : Prop := l.length ≤ k ∧ ∀ x ∈ l, Rg 1009 x
theorem LOk.mono {k k' : Nat} {l : List Int} (h : LOk k l) (hk : k ≤ k') : LOk k' l := ⟨Nat.le_trans h.1 hk, h.2⟩
theorem LOk.app {k : Nat} {l : List Int} {x : Int} (h : LOk k l) : LOk (k + 1) (l ++ [x % 1009]) := by
  refine ⟨by rw [List.length_append]; exact Nat.succ_le_succ h.1, fun y hy => ?_⟩
  rcases List.mem_append.mp hy with hy | hy
  · exact h.2 y hy
  · rw [List.mem_singleton.mp hy]
    exact ⟨Int.emod_nonneg _ (by decide), Int.emod_lt_of_pos _ (by decide)⟩
theorem dig_ok {k : Nat} {x : LS} (h : LOk k x.2) : ∀ j : Nat, LOk (k + j) (itn digS j x).2
  | 0 => h
  | j + 1 => by
    rw [itn_succ]
    have ih := dig_ok h j
    generalize itn digS j x = y at ih
    unfold digS
    split
    · exact ih.app
    · exact ih.mono (by omega)
theorem hsh_ok {k : Nat} {x : LS} (h : LOk k x.2) : ∀ j : Nat, LOk (k + j) (hshN j x).2
  | 0 => h
  | j + 1 => by
    have ih := hsh_ok h j
    show LOk _ (hshS j (hshN j x)).2
    exact ih.app
theorem cel_ok {k i : Nat} {n : Int} {l : List Int} (h : LOk k l) : LOk (k + 40) (celF i n l) := by
  unfold celF
  split
  · exact dig_ok (x := (iabs n, l)) h 40
  · exact (hsh_ok (x := (h0F i n, l)) h 6).mono (by omega)
theorem rowU_ok {ns : List Int} : ∀ i : Nat, LOk (40 * i) (rowU ns i)
  | 0 => ⟨Nat.le_refl _, fun _ h => nomatch h⟩
  | i + 1 => (cel_ok (rowU_ok i)).mono (by omega)
theorem rowF_ok (ns : List Int) : ∀ x ∈ rowF ns, Rg 1009 x := (rowU_ok ns.length).2
theorem iabs_nn (n : Int) : 0 ≤ iabs n := by unfold iabs; split <;> omega
theorem dig_nn {x : LS} (h : 0 ≤ x.1) : ∀ j : Nat, 0 ≤ (itn digS j x).1
  | 0 => h
  | j + 1 => by
    rw [itn_succ]
    have ih := dig_nn h j
    generalize itn digS j x = y at ih
    unfold digS
    split
    · exact Int.ediv_nonneg ih (by decide)
    · exact ih
theorem mod31 (a : Int) : 0 ≤ a % 2147483647 ∧ a % 2147483647 < 2147483647 := ⟨Int.emod_nonneg _ (by decide), Int.emod_lt_of_pos _ (by decide)⟩
theorem hsh_b {x : LS} (h : 0 ≤ x.1 ∧ x.1 < 2147483647) : ∀ j : Nat, 0 ≤ (hshN j x).1 ∧ (hshN j x).1 < 2147483647
  | 0 => h
  | j + 1 => mod31 _
def own (l : List Int) : Sl := .own (l.map .int)
theorem own_app {l : List Int} {x : Int} : Sl.own (l.map .int ++ [.int x]) = own (l ++ [x]) := by unfold own; rw [List.map_append]; rfl
theorem ex_row {K : PySem.W.Frag} {E : XK} {p : Addr} {m : Hp} {ns : List Int} (hl : ns.length ≤ 63) (hS : SqL K m p (ns.map V.int)) :
    ExS K (WD E) (t__law_row K E) [.frz (.ref p) m, .no, .no, .no, .no, .no] (.ret (.list ((rowF ns).map .int))) := by
  refine (ex_seq (ex_setO (eo_lst ea_nil (len_le rfl)))
      (ex_seq (ex_for (fun i => [.frz (.ref p) m, own (rowU ns i), .no, .no, .no, .no]) (wk_rng (ea_cons (ev_scrLen rfl hS) ea_nil) (by omega)) rfl fun i d hd => ?_)
      ?_))
  · obtain ⟨hi, rfl⟩ := rngD_get hd
    have hi : i < ns.length := by omega
    have hgi : ns[i]? = some ns[i] := List.getElem?_eq_getElem hi
    have hgd : ns.getD i 0 = ns[i] := by rw [List.getD_eq_getElem?_getD, hgi] <;> rfl
    have hlk := rowU_ok (ns := ns) i
    show ∃ r1 ws, TgD (gName 2) [.frz (.ref p) m, own (rowU ns i), .no, .no, .no, .no] (.int (i : Nat)) r1 ws ∧ ExS K (WD E) _ r1 (.nx [.frz (.ref p) m, own (celF i (ns.getD i 0) (rowU ns i)), .no, .no, .no, .no])
    rw [hgd]
    generalize hn : ns[i] = n at hgi
    generalize hll : rowU ns i = l at hlk
    have hv := iabs_nn n
    refine ⟨_, _, tg_name, ?_⟩
    by_cases hb : 10 ^ 18 ≤ iabs n
    · have ec : celF i n l = (itn digS 40 (iabs n, l)).2 := by unfold celF; rw [if_pos hb]
      rw [ec]
      refine ex_forget 4 (ex_forget 3 (ex_forget 2 (ex_seq (ex_set (ev_is (ev_cb (ea_cons (ev_cb (ea_cons (ev_scrIx rfl hS rfl hgi) ea_nil) cb_int) ea_nil) cb_abs) (rfl : _ = PyData.int (iabs n))))
      (ex_ifT (eb_T (ei_ge (ev_var rfl) (ev_op ev_int ev_int (od_pow ⟨by decide, by decide, by decide⟩))) (decide_eq_true hb))
        (ex_for (fun j => [.frz (.ref p) m, own (itn digS j (iabs n, l)).2, .dat (.int (i : Nat)), .dat (.int (itn digS j (iabs n, l)).1), .no, .no]) (wk_rng (ea_cons ev_int ea_nil) (by decide)) rfl fun j d hd => ?_))) rfl) rfl) rfl
      have hj := dig_ok (x := (iabs n, l)) hlk j
      obtain ⟨hj40, rfl⟩ := rngD_get hd
      have hj40 : j < 40 := hj40
      have hil := hl
      have hy := dig_nn (x := (iabs n, l)) hv j
      refine ⟨_, _, tg_name, ?_⟩
      rw [itn_succ]
      generalize itn digS j (iabs n, l) = y at hj hy
      obtain ⟨v, k⟩ := y
      have hk : k.length ≤ 40 * i + j := hj.1
      by_cases h0 : 0 < v
      · have e : digS (v, k) = (v / 1009, k ++ [v % 1009]) := if_pos h0
        rw [e]
        refine ex_forget 4 (ex_to (ex_ifT (eb_T (ei_gt (ev_var rfl) ev_int) (decide_eq_true h0)) (ex_seq (ex_append rfl (ei_mod (ev_cb (ea_cons (ev_var rfl) ea_nil) cb_int) ev_int (by decide)) (by rw [List.length_map]; show k.length ≤ 100000; omega)) (ex_set (ei_div (ev_var rfl) ev_int (by decide))))) (?_ : _ = [.frz (.ref p) m, own (k ++ [v % 1009]), .dat (.int (i : Nat)), .dat (.int (v / 1009)), .dat (.int (j : Nat)), .no])) rfl
        rw [← own_app]
        rfl
      · have e : digS (v, k) = (v, k) := if_neg h0
        rw [e]
        exact ex_forget 4 (ex_ifF (eb_F (ei_gt (ev_var rfl) ev_int) (decide_eq_false h0)) ex_next) rfl
    · have ec : celF i n l = (hshN 6 (h0F i n, l)).2 := by unfold celF; rw [if_neg hb]
      rw [ec]
      refine ex_forget 5 (ex_forget 4 (ex_forget 3 (ex_forget 2 (ex_seq (ex_set (ev_is (ev_cb (ea_cons (ev_cb (ea_cons (ev_scrIx rfl hS rfl hgi) ea_nil) cb_int) ea_nil) cb_abs) (rfl : _ = PyData.int (iabs n))))
      (ex_ifF (eb_F (ei_ge (ev_var rfl) (ev_op ev_int ev_int (od_pow ⟨by decide, by decide, by decide⟩))) (decide_eq_false hb))
        (ex_seq (ex_set (ei_mod (ev_cb (ea_cons (ei_add (ei_add (ei_mul (ev_var rfl) ev_int (mulR (by decide) (by decide))) (ei_mul (ev_var rfl) ev_int (mulR (by decide) (by decide)))) ev_int) ea_nil) cb_int) ev_int (by decide)))
        (ex_for (fun j => [.frz (.ref p) m, own (hshN j (h0F i n, l)).2, .dat (.int (i : Nat)), .dat (.int (iabs n)), .no, .dat (.int (hshN j (h0F i n, l)).1)]) (wk_rng (ea_cons ev_int ea_nil) (by decide)) rfl fun j d hd => ?_)))) rfl) rfl) rfl) rfl
      have hj := hsh_ok (x := (h0F i n, l)) hlk j
      obtain ⟨hj6, rfl⟩ := rngD_get hd
      have hj6 : j < 6 := hj6
      refine ⟨_, _, tg_name, ?_⟩
      show ExS K (WD E) _ _ (.nx [.frz (.ref p) m, own (hshS j (hshN j (h0F i n, l))).2, .dat (.int (i : Nat)), .dat (.int (iabs n)), .no, .dat (.int (hshS j (hshN j (h0F i n, l))).1)])
      generalize hshN j (h0F i n, l) = y at hj
      obtain ⟨v, k⟩ := y
      have hk : k.length ≤ 40 * i + j := hj.1
      refine ex_forget 4 (ex_to (ex_seq (ex_set (ei_mod (ev_cb (ea_cons (ei_add (ei_add (ei_mul (ev_var rfl) ev_int (mulR (by decide) (by decide))) (ei_mul ev_int (ev_var rfl) (mulL (by decide) (by decide)))) ev_int) ea_nil) cb_int) ev_int (by decide)))
        (ex_append rfl (ei_mod (ev_cb (ea_cons (ei_div (ev_var rfl) ev_int (by decide)) ea_nil) cb_int) ev_int (by decide)) (by rw [List.length_map]; show k.length ≤ 100000; omega))) (?_ : _ = [.frz (.ref p) m, own (k ++ [(v * 16807 + 11 * (j : Int) + 1) % 2147483647 / 7 % 1009]), .dat (.int (i : Nat)), .dat (.int (iabs n)), .dat (.int (j : Nat)), .dat (.int ((v * 16807 + 11 * (j : Int) + 1) % 2147483647))])) rfl
      rw [← own_app]
      rfl
  · have e : (rngD (ns.length : Int).toNat).length = ns.length := by unfold rngD; rw [List.length_map, List.length_range]; omega
    rw [e]
    exact ex_rest (j := 1) (ds := (rowF ns).map .int) rfl (ex_ret (ev_var rfl))
end Ck

/-! What the law's own defs hand back. -/
namespace Ck
open PySem PySem.Spec PyProof.Rows L2

def dRow (xs : List Int) : PyData := .list (xs.map .int)
def RowOk (xs : List Int) : Prop := ∀ x ∈ xs, Rg 1009 x
def atF (xs : List Int) (i : Int) : Int := if 0 ≤ i ∧ i < xs.length then xs.getD i.toNat 0 else 0
theorem at_b {xs : List Int} (h : RowOk xs) (i : Int) : 0 ≤ atF xs i ∧ atF xs i < 1009 := by
  unfold atF
  split
  · next hi =>
    have hl : i.toNat < xs.length := by omega
    have e : xs.getD i.toNat 0 = xs[i.toNat] := by rw [List.getD_eq_getElem?_getD, List.getElem?_eq_getElem hl] <;> rfl
    rw [e]
    exact h _ (List.getElem_mem hl)
  · decide
inductive R__law_at : Con
  | mk {xs : List Int} {i : Int} : R__law_at [dRow xs, .int i] (.ret (.int (atF xs i)))
theorem bd__law_at {K : PySem.W.Frag} (E : XK) (ds : List PyData) (o : Out) (h : R__law_at ds o) : Bd K E (t__law_at K E) (ro N__law_at ds) o := by
  cases h with
  | @mk xs i =>
    by_cases h : 0 ≤ i ∧ i < xs.length
    · have e : atF xs i = xs.getD i.toNat 0 := if_pos h
      obtain ⟨h1, h2⟩ := h
      obtain ⟨n, rfl⟩ := Int.eq_ofNat_of_zero_le h1
      have hl : n < xs.length := by omega
      have hx : xs[n]? = some (xs.getD n 0) := by rw [List.getD_eq_getElem?_getD, List.getElem?_eq_getElem hl] <;> rfl
      rw [e]
      exact bd_ret (ex_stop (ex_ifT (eb_T (ev_chain ev_int (ev_var rfl) (ev_cb (ea_cons (ev_var rfl) ea_nil) cb_lenL)) (chain2 (decide_eq_true h1) (decide_eq_true (by rw [List.length_map]; exact h2)))) (ex_ret (ev_op (ev_var rfl) (ev_var rfl) (od_ixL (atI_map hx))))) trivial)
    · have e : atF xs i = 0 := if_neg h
      rw [e]
      refine bd_ret (ex_seq (ex_ifF (eb_F (ev_chain ev_int (ev_var rfl) (ev_cb (ea_cons (ev_var rfl) ea_nil) cb_lenL)) ?_) ex_next) (ex_ret ev_int))
      rw [List.length_map, ← Bool.decide_and]
      exact decide_eq_false h
def q8 (k : Int) : Int := ([11, 23, 29, 41, 53, 83, 89, 113] : List Int).getD k.toNat 11
theorem q8_ok {k : Int} (h1 : 0 ≤ k) (h2 : k < 8) : atI [PyData.int 11, .int 23, .int 29, .int 41, .int 53, .int 83, .int 89, .int 113] k = some (.int (q8 k)) ∧ Ord (q8 k) := by
  obtain ⟨n, rfl⟩ := Int.eq_ofNat_of_zero_le h1
  have hn : n < 8 := by omega
  match n, hn with
  | 0, _ => exact ⟨rfl, by unfold Ord; decide⟩
  | 1, _ => exact ⟨rfl, by unfold Ord; decide⟩
  | 2, _ => exact ⟨rfl, by unfold Ord; decide⟩
  | 3, _ => exact ⟨rfl, by unfold Ord; decide⟩
  | 4, _ => exact ⟨rfl, by unfold Ord; decide⟩
  | 5, _ => exact ⟨rfl, by unfold Ord; decide⟩
  | 6, _ => exact ⟨rfl, by unfold Ord; decide⟩
  | 7, _ => exact ⟨rfl, by unfold Ord; decide⟩
def qF (xs : List Int) : Int := q8 (atF xs 0 % 8)
theorem qF_ok (xs : List Int) : Ord (qF xs) := (q8_ok (Int.emod_nonneg _ (by decide)) (Int.emod_lt_of_pos _ (by decide))).2
inductive R__law_setup : Con
  | mk {xs : List Int} : RowOk xs → R__law_setup [dRow xs] (.ret (dSet (qF xs) (se (qF xs) (atF xs 1))))
theorem bd__law_setup {K : PySem.W.Frag} (E : XK) (ds : List PyData) (o : Out) (h : R__law_setup ds o) : Bd K E (t__law_setup K E R__law_at R_setup_of) (ro N__law_setup ds) o := by
  cases h with
  | @mk xs hx =>
    have h1 := at_b hx 1
    exact bd_ret (ex_seq (ex_set (ev_op (ev_rest (eo_lst (ea_cons ev_int (ea_cons ev_int (ea_cons ev_int (ea_cons ev_int (ea_cons ev_int (ea_cons ev_int (ea_cons ev_int (ea_cons ev_int ea_nil)))))))) (len_le rfl))) (ei_mod (ev_cb (ea_cons (ev_call (ea_cons (ev_var rfl) (ea_cons ev_int ea_nil)) .mk) ea_nil) cb_int) ev_int (by decide)) (od_ixL (q8_ok (Int.emod_nonneg _ (by decide)) (Int.emod_lt_of_pos _ (by decide))).1)))
      (ex_ret (ev_call (ea_cons (ev_var rfl) (ea_cons (ev_cb (ea_cons (ev_call (ea_cons (ev_var rfl) (ea_cons ev_int ea_nil)) .mk) ea_nil) cb_int) ea_nil)) (.mk (qF_ok xs) h1.1 (by omega)))))
theorem mod5 (a : Int) : 0 ≤ a % 5 ∧ a % 5 < 5 := ⟨Int.emod_nonneg _ (by decide), Int.emod_lt_of_pos _ (by decide)⟩
/-- the person of a row -/
def ps0 (q : Int) (xs : List Int) (k : Int) : Tri := (atF xs k % q, atF xs (k + 1) % 5, atF xs (k + 2) % 5)
def nxt (q : Int) (p : Tri) : Tri := ((p.1 + 1) % q, p.2)
def psn (q : Int) (a : Nat → Int) (p : Tri) : Tri := if mk a p % q = 0 then nxt q p else p
theorem ps0_ok {q : Int} {xs : List Int} {k : Int} (h : Ord q) : PnOk q (ps0 q xs k) := ⟨rg_mod h _, mod5 _, mod5 _⟩
theorem nxt_ok {q : Int} {p : Tri} (h : Ord q) (hp : PnOk q p) : PnOk q (nxt q p) := ⟨rg_mod h _, hp.2⟩
theorem mk_ph (q : Int) (a : Nat → Int) (p : Tri) : ph q (mk a p) = ph q (a 1) + ph q (a 2) * ph q p.1 + ph q (a 3) * ph q p.2.1 + ph q (a 4) * ph q p.2.2 := by
  unfold mk dot dot dot dot dot
  simp only [ph_add, ph_mul, ph_one, ph_zero]
  grind
theorem nxt_mk {q : Int} {a : Nat → Int} {p : Tri} (h : Ord q) (ha : a 2 % q ≠ 0) (hp : mk a p % q = 0) : mk a (nxt q p) % q ≠ 0 := fun e => by
  rw [← ph_ne h] at hp e
  apply ha
  rw [← ph_ne h]
  rw [mk_ph] at hp e
  have e1 : ph q (nxt q p).1 = ph q p.1 + 1 := by
    show ph q ((p.1 + 1) % q) = _
    rw [ph_mod h, ph_add, ph_one]
  have e2 : (nxt q p).2 = p.2 := rfl
  rw [e1, e2] at e
  grind
theorem psn_ok {q : Int} {a : Nat → Int} {p : Tri} (h : Ord q) (ha : a 2 % q ≠ 0) (hp : PnOk q p) : PnOk q (psn q a p) ∧ mk a (psn q a p) % q ≠ 0 := by
  unfold psn
  split
  · next e => exact ⟨nxt_ok h hp, nxt_mk h ha e⟩
  · next e => exact ⟨hp, e⟩
inductive R__law_person : Con
  | mk {q k : Int} {a : Nat → Int} {xs : List Int} : Ord q → a 2 % q ≠ 0 → R__law_person [dSet q a, dRow xs, .int k] (.ret (dPn (psn q a (ps0 q xs k))))
theorem bd__law_person {K : PySem.W.Frag} {mg : Str → Option Value} (T : Tx K mg) (E : XK) (ds : List PyData) (o : Out) (h : R__law_person ds o) : Bd K E (t__law_person K E R__law_at R_mark_of) (ro N__law_person ds) o := by
  cases h with
  | @mk q k a xs hq ha =>
    have hp := ps0_ok (xs := xs) (k := k) hq
    have hpos := hq.pos
    refine bd_ret (ex_seq (ex_set (ev_tup (ea_cons (ei_mod (ev_cb (ea_cons (ev_call (ea_cons (ev_var rfl) (ea_cons (ev_var rfl) ea_nil)) .mk) ea_nil) cb_int) (ev_op (ev_var rfl) ev_int (od_ixT rfl)) hpos) (ea_cons (ei_mod (ev_cb (ea_cons (ev_call (ea_cons (ev_var rfl) (ea_cons (ei_add (ev_var rfl) ev_int) ea_nil)) .mk) ea_nil) cb_int) ev_int (by decide)) (ea_cons (ei_mod (ev_cb (ea_cons (ev_call (ea_cons (ev_var rfl) (ea_cons (ei_add (ev_var rfl) ev_int) ea_nil)) .mk) ea_nil) cb_int) ev_int (by decide)) ea_nil))) (len_le rfl)))
      (ex_stop ?_ trivial))
    by_cases hm : mk a (ps0 q xs k) % q = 0
    · have e : psn q a (ps0 q xs k) = nxt q (ps0 q xs k) := if_pos hm
      have hm2 := nxt_mk hq ha hm
      have hp2 := nxt_ok hq hp
      rw [e]
      refine ex_forExit (fun i => match i with
        | 0 => [.dat (dSet q a), .dat (dRow xs), .dat (.int k), .dat (dPn (ps0 q xs k)), .no]
        | _ + 1 => [.dat (dSet q a), .dat (dRow xs), .dat (.int k), .dat (dPn (nxt q (ps0 q xs k))), .no]) 1 trivial (wk_rng (ea_cons ev_int ea_nil) (by decide)) rfl (fun i d hi hd => ?_) ⟨.int 1, _, _, rfl, tg_name, ex_tryOk (fun W' => ex_seq (ex_drop (ev_call (ea_cons (ev_var rfl) (ea_cons (ev_var rfl) ea_nil)) (.mk hq hp2 hm2))) (ex_ret (ev_var rfl))) (fun _ _ e => Res.noConfusion e)⟩
      have h0 : i = 0 := by omega
      subst h0
      exact ⟨_, _, tg_name, ex_forget 4 (ex_tryX (fun W' => ex_stop (ex_dropX (ev_callX (ea_cons (ev_var rfl) (ea_cons (ev_var rfl) ea_nil)) (.mkX hq hp hm))) trivial) T.mNN (fun b => ex_set (ev_tup (ea_cons (ei_mod (ev_cb (ea_cons (ei_add (ev_op (ev_var rfl) ev_int (od_ixT rfl)) ev_int) ea_nil) cb_int) (ev_op (ev_var rfl) ev_int (od_ixT rfl)) hpos) (ea_cons (ev_op (ev_var rfl) ev_int (od_ixT rfl)) (ea_cons (ev_op (ev_var rfl) ev_int (od_ixT rfl)) ea_nil))) (len_le rfl)))) rfl⟩
    · have e : psn q a (ps0 q xs k) = ps0 q xs k := if_neg hm
      rw [e]
      exact ex_forExit (fun i => [.dat (dSet q a), .dat (dRow xs), .dat (.int k), .dat (dPn (ps0 q xs k)), .no]) 0 trivial (wk_rng (ea_cons ev_int ea_nil) (by decide)) rfl (fun i d hi hd => absurd hi (Nat.not_lt_zero _)) ⟨.int 0, _, _, rfl, tg_name, ex_tryOk (fun W' => ex_seq (ex_drop (ev_call (ea_cons (ev_var rfl) (ea_cons (ev_var rfl) ea_nil)) (.mk hq hp hm))) (ex_ret (ev_var rfl))) (fun _ _ e => Res.noConfusion e)⟩
end Ck

/-! What the law's sessions, pairs, noise and replays hand back. -/
namespace Ck
open PySem PySem.Spec PyProof.Rows L2

/-! ### sessions -/
theorem mul_ne {q x y : Int} (h : Ord q) (hx : x % q ≠ 0) (hy : y % q ≠ 0) : x * y % q ≠ 0 := fun e => by
  have := ph_inv h hy
  apply hx
  rw [← ph_ne h] at e ⊢
  rw [ph_mul] at e
  grind
theorem sm_ne {q x : Int} (h1 : 1 ≤ x) (h2 : x < q) : x % q ≠ 0 := by
  rw [Int.emod_eq_of_lt (by omega) h2]
  omega
/-- the draws of a session -/
def dw (xs : List Int) (k : Int) (j : Nat) : Int := atF xs (k + (j : Nat))
def sBl (q : Int) (xs : List Int) (k : Int) : Bl := ⟨1 + dw xs k 0 % (q - 1), 1 + dw xs k 1 % (q - 1), dw xs k 2 % q, dw xs k 4 % q, dw xs k 5 % q, dw xs k 6 % q, dw xs k 7 % q⟩
theorem in1 {q x : Int} (h : Ord q) : 1 ≤ 1 + x % (q - 1) ∧ 1 + x % (q - 1) < q := by
  have h1 := h.lo
  have h2 := Int.emod_nonneg x (b := q - 1) (by omega)
  have h3 := Int.emod_lt_of_pos x (b := q - 1) (by omega)
  omega
theorem sBl_ok {q k : Int} {xs : List Int} (h : Ord q) : BlOk q (sBl q xs k) where
  s := ⟨by have := (in1 (x := dw xs k 0) h).1; show 0 ≤ 1 + dw xs k 0 % (q - 1); omega, (in1 h).2⟩
  s0 := by have := (in1 (x := dw xs k 0) h).1; show 1 + dw xs k 0 % (q - 1) ≠ 0; omega
  u := ⟨by have := (in1 (x := dw xs k 1) h).1; show 0 ≤ 1 + dw xs k 1 % (q - 1); omega, (in1 h).2⟩
  u0 := by have := (in1 (x := dw xs k 1) h).1; show 1 + dw xs k 1 % (q - 1) ≠ 0; omega
  v := rg_mod h _
  x0 := rg_mod h _
  x1 := rg_mod h _
  x2 := rg_mod h _
  x3 := rg_mod h _
structure Ses where
  p : Tri
  f : Tri
  b : Bl
  c : Int
  r : Int
  t : Tk
def ses (q : Int) (a : Nat → Int) (x : Int) (p : Tri) (xs : List Int) (k : Int) : Ses :=
  let b := sBl q xs k
  let w := dw xs k 3 % q
  let f := ofr a x p w
  let c := rqs q a p f b
  let r := (w + c * x) % q
  ⟨p, f, b, c, r, tkt q a p f b r⟩
def dSes (q : Int) (s : Ses) : PyData := .tuple [dTk q s.t, dBl s.b, dRec q s.p s.f s.c s.r]
/-- what holds of a session of the secret x -/
structure SsOk (q : Int) (a : Nat → Int) (x : Int) (s : Ses) : Prop where
  p : PnOk q s.p
  m : mk a s.p % q ≠ 0
  b : BlOk q s.b
  w : ∃ w, s.f = ofr a x s.p w ∧ s.r = (w + s.c * x) % q
  c : s.c = rqs q a s.p s.f s.b
  t : s.t = tkt q a s.p s.f s.b s.r
theorem ses_ok {q x k : Int} {a : Nat → Int} {p : Tri} {xs : List Int} (h : Ord q) (hp : PnOk q p) (hm : mk a p % q ≠ 0) : SsOk q a x (ses q a x p xs k) := ⟨hp, hm, sBl_ok h, ⟨_, rfl, rfl⟩, rfl, rfl⟩
theorem rqs_rg {q : Int} {a : Nat → Int} {p f : Tri} {b : Bl} (h : Ord q) : Rg q (rqs q a p f b) := ⟨quo_nn h, quo_lt h⟩
/-- the checks hold with the right secret -/
theorem grd_ok {q x w c : Int} {a : Nat → Int} {p : Tri} (h : Ord q) : grd q a p (ofr a x p w) (a 0 * x) ((w + c * x) % q) c = true := by
  have e1 : G q (a 0 * ((w + c * x) % q)) = G q (a 0 * w + a 0 * x * c) := G_ph h (by simp only [ph_mul, ph_add, ph_mod h]; grind)
  have e2 : G q (mk a p * ((w + c * x) % q)) = G q (mk a p * w + mk a p * x * c) := G_ph h (by simp only [ph_mul, ph_add, ph_mod h]; grind)
  show (decide (G q (a 0 * ((w + c * x) % q)) = G q (a 0 * w + a 0 * x * c)) && decide (G q (mk a p * ((w + c * x) % q)) = G q (mk a p * w + mk a p * x * c))) = true
  exact chain2 (decide_eq_true e1) (decide_eq_true e2)
inductive R__law_session : Con
  | mk {q x k : Int} {a : Nat → Int} {p : Tri} {xs : List Int} : Ord q → 1 ≤ x → x < q → PnOk q p → mk a p % q ≠ 0 → R__law_session [dSet q a, .int x, dPn p, dRow xs, .int k] (.ret (dSes q (ses q a x p xs k)))
theorem bd__law_session {K : PySem.W.Frag} (E : XK) (ds : List PyData) (o : Out) (h : R__law_session ds o) : Bd K E (t__law_session K E R__law_at R_offer_of R_request_of R_grant_of R_key_of R_ticket_of) (ro N__law_session ds) o := by
  cases h with
  | @mk q x k a p xs hq hx1 hx2 hp hm =>
    have h1 := hq.lo
    have hpos := hq.pos
    have hpos1 : 0 < q - 1 := by omega
    have hb := sBl_ok (xs := xs) (k := k) hq
    have hf : (ofr a x p (dw xs k 3 % q)).1 % q ≠ 0 := mul_ne hq hm (sm_ne hx1 hx2)
    refine bd_ret (ex_seq (ex_set (ev_op (ev_var rfl) ev_int (od_ixT rfl)))
      (ex_seq (ex_set (ev_rest (eo_lc [.int (dw xs k 0), .int (dw xs k 1), .int (dw xs k 2), .int (dw xs k 3), .int (dw xs k 4), .int (dw xs k 5), .int (dw xs k 6), .int (dw xs k 7)] (wk_rng (ea_cons ev_int ea_nil) (by decide)) rfl rfl (len_le rfl) fun i d z hd hz => ?_)))
      (ex_seq (ex_set (ev_cb (ea_cons (ev_rest (eo_lc [.int (dw xs k 4 % q), .int (dw xs k 5 % q), .int (dw xs k 6 % q), .int (dw xs k 7 % q)] (wk_rng (ea_cons ev_int ea_nil) (by decide)) rfl rfl (len_le rfl) fun i d z hd hz => ?_)) ea_nil) cb_tupL))
      ?_)))
    · obtain ⟨hi, rfl⟩ := rngD_get hd
      refine ⟨_, _, tg_name, fun j hj => hj, ?_⟩
      have hz' : z = .int (dw xs k i) := by
        match i, hz with
        | 0, hz => cases hz; rfl
        | 1, hz => cases hz; rfl
        | 2, hz => cases hz; rfl
        | 3, hz => cases hz; rfl
        | 4, hz => cases hz; rfl
        | 5, hz => cases hz; rfl
        | 6, hz => cases hz; rfl
        | 7, hz => cases hz; rfl
        | i + 8, hz => simp at hz
      rw [hz']
      exact ev_cb (ea_cons (ev_call (ea_cons (ev_var rfl) (ea_cons (ei_add (ev_var rfl) (ev_var rfl)) ea_nil)) .mk) ea_nil) cb_int
    · obtain ⟨hi, rfl⟩ := rngD_get hd
      refine ⟨_, _, tg_name, fun j hj => hj, ?_⟩
      match i, hz with
      | 0, hz => cases hz; exact ei_mod (ev_op (ev_var rfl) (ei_add ev_int (ev_var rfl)) (od_ixL rfl)) (ev_var rfl) hpos
      | 1, hz => cases hz; exact ei_mod (ev_op (ev_var rfl) (ei_add ev_int (ev_var rfl)) (od_ixL rfl)) (ev_var rfl) hpos
      | 2, hz => cases hz; exact ei_mod (ev_op (ev_var rfl) (ei_add ev_int (ev_var rfl)) (od_ixL rfl)) (ev_var rfl) hpos
      | 3, hz => cases hz; exact ei_mod (ev_op (ev_var rfl) (ei_add ev_int (ev_var rfl)) (od_ixL rfl)) (ev_var rfl) hpos
      | i + 4, hz => simp at hz
    simp only [ro, List.map_cons, List.map_nil, List.length_cons, List.length_nil, Nat.reduceAdd, Nat.reduceSub, List.replicate_succ, List.replicate_zero, List.cons_append, List.nil_append, List.set_cons_succ, List.set_cons_zero]
    refine (ex_seq (ex_set (ev_is (ev_tup (ea_cons (ei_add ev_int (ei_mod (ev_op (ev_var rfl) ev_int (od_ixL rfl)) (ei_sub (ev_var rfl) ev_int) hpos1)) (ea_cons (ei_add ev_int (ei_mod (ev_op (ev_var rfl) ev_int (od_ixL rfl)) (ei_sub (ev_var rfl) ev_int) hpos1)) (ea_cons (ei_mod (ev_op (ev_var rfl) ev_int (od_ixL rfl)) (ev_var rfl) hpos) (ea_cons (ev_var rfl) ea_nil)))) (len_le rfl)) (rfl : _ = dBl (sBl q xs k))))
      (ex_seq (ex_set (ei_mod (ev_op (ev_var rfl) ev_int (od_ixL rfl)) (ev_var rfl) hpos))
      (ex_seq (ex_set (ev_call (ea_cons (ev_var rfl) (ea_cons (ev_var rfl) (ea_cons (ev_var rfl) (ea_cons (ev_var rfl) ea_nil)))) (.mk hq hx1 hx2 hp hm (rg_mod hq _))))
      ?_)))
    simp only [ro, List.map_cons, List.map_nil, List.length_cons, List.length_nil, Nat.reduceAdd, Nat.reduceSub, List.replicate_succ, List.replicate_zero, List.cons_append, List.nil_append, List.set_cons_succ, List.set_cons_zero]
    refine (ex_seq (ex_set (ev_call (ea_cons (ev_var rfl) (ea_cons (ev_var rfl) (ea_cons (ev_var rfl) (ea_cons (ev_var rfl) ea_nil)))) (.mk hq hp hm hf hb)))
      (ex_seq (ex_set (ev_call (ea_cons (ev_var rfl) (ea_cons (ev_var rfl) (ea_cons (ev_var rfl) (ea_cons (ev_var rfl) ea_nil)))) (.mk hq hx1 hx2 (rg_mod hq _) (rqs_rg hq))))
      ?_))
    simp only [ro, List.map_cons, List.map_nil, List.length_cons, List.length_nil, Nat.reduceAdd, Nat.reduceSub, List.replicate_succ, List.replicate_zero, List.cons_append, List.nil_append, List.set_cons_succ, List.set_cons_zero]
    exact (ex_seq (ex_set (ev_call (ea_cons (ev_var rfl) (ea_cons (ev_call (ea_cons (ev_var rfl) (ea_cons (ev_var rfl) ea_nil)) (.mk hq hx1 hx2)) (ea_cons (ev_var rfl) (ea_cons (ev_var rfl) (ea_cons (ev_var rfl) (ea_cons (ev_var rfl) ea_nil)))))) (.mk hq hp hm hf hb (rg_mod hq _) (grd_ok hq))))
      (ex_ret (ev_tup (ea_cons (ev_var rfl) (ea_cons (ev_var rfl) (ea_cons (ev_tup (ea_cons (ev_var rfl) (ea_cons (ev_var rfl) (ea_cons (ev_var rfl) (ea_cons (ev_var rfl) ea_nil)))) (len_le rfl)) ea_nil))) (len_le rfl))))

/-! ### pairs -/
def pcond (xs : List Int) (k : Int) (w : Pr) (i : Nat) : Bool := decide (atF xs (k + (i : Int) / 5) / (1 + (i : Int) % 5) % 3 = 0) || decide (((i : Int) / 5, (i : Int) % 5) = w)
def prU (xs : List Int) (k : Int) (w : Pr) : Nat → List Pr
  | 0 => []
  | i + 1 => if pcond xs k w i = true then prU xs k w i ++ [((i : Int) / 5, (i : Int) % 5)] else prU xs k w i
def prF (xs : List Int) (k : Int) (w : Pr) : List Pr := prU xs k w 25
theorem prU_ok {xs : List Int} {k : Int} {w : Pr} : ∀ i : Nat, i ≤ 25 → (prU xs k w i).length ≤ i ∧ SetOk (prU xs k w i) ∧ ∀ p ∈ prU xs k w i, ixP p < i
  | 0, _ => ⟨Nat.le_refl _, ⟨(fun _ h => nomatch h), List.Pairwise.nil⟩, fun _ h => nomatch h⟩
  | i + 1, hi => by
    obtain ⟨h1, ⟨h2, h3⟩, h4⟩ := prU_ok (xs := xs) (k := k) (w := w) i (by omega)
    unfold prU
    split
    · have hp : PrOk ((i : Int) / 5, (i : Int) % 5) := ⟨⟨by show 0 ≤ (i : Int) / 5; omega, by show (i : Int) / 5 < 5; omega⟩, mod5 _⟩
      have hx : ixP ((i : Int) / 5, (i : Int) % 5) = i := by
        show 5 * ((i : Int) / 5) + (i : Int) % 5 = i
        omega
      refine ⟨by rw [List.length_append]; exact Nat.succ_le_succ h1, ⟨fun p h => ?_, ?_⟩, fun p h => ?_⟩
      · rcases List.mem_append.mp h with h | h
        · exact h2 p h
        · rw [List.mem_singleton.mp h]; exact hp
      · rw [List.pairwise_append]
        refine ⟨h3, List.pairwise_singleton _ _, fun p hp' z hz => ?_⟩
        rw [List.mem_singleton.mp hz, hx]
        exact h4 p hp'
      · rcases List.mem_append.mp h with h | h
        · have := h4 p h; omega
        · rw [List.mem_singleton.mp h, hx]; omega
    · exact ⟨by omega, ⟨h2, h3⟩, fun p hp => by have := h4 p hp; omega⟩
inductive R__law_pairs : Con
  | mk {xs : List Int} {k : Int} {p : Tri} : R__law_pairs [dRow xs, .int k, dPn p] (.ret (dPs (prF xs k p.2)))
theorem bd__law_pairs {K : PySem.W.Frag} (E : XK) (ds : List PyData) (o : Out) (h : R__law_pairs ds o) : Bd K E (t__law_pairs K E R__law_at) (ro N__law_pairs ds) o := by
  cases h with
  | @mk xs k p =>
    refine bd_ret (ex_seq (ex_setO (eo_lst ea_nil (len_le rfl)))
      (ex_seq (ex_for (fun i => [.dat (dRow xs), .dat (.int k), .dat (dPn p), .own ((prU xs k p.2 i).map dPair), .no]) (wk_rng (ea_cons ev_int ea_nil) (by decide)) rfl fun i d hd => ?_)
      (ex_rest (j := 3) (ds := (prF xs k p.2).map dPair) rfl (ex_ret (ev_var rfl)))))
    obtain ⟨hi, rfl⟩ := rngD_get hd
    have hi : i < 25 := hi
    have hl := (prU_ok (xs := xs) (k := k) (w := p.2) i (by omega)).1
    refine ⟨_, _, tg_name, ?_⟩
    have hcnd : EvB (tOr (tTest (tOp rEq (tOp aMod (tOp aDiv (tCB cInt (tCons (tCallS (spD K R__law_at) (WE W0) (tCons (tVar 0) (tCons (tOp aAdd (tVar 1) (tOp aDiv (tVar 4) (tC (.int 5)))) tNil))) tNil)) (tOp aAdd (tC (.int 1)) (tOp aMod (tVar 4) (tC (.int 5))))) (tC (.int 3))) (tC (.int 0)))) (tTest (tOp (rEqD K) (tTup (tCons (tOp aDiv (tVar 4) (tC (.int 5))) (tCons (tOp aMod (tVar 4) (tC (.int 5))) tNil))) (tSl (rSlA K) (tVar 2) (tPart (tC (.int 1))) tNoPart))))
        [.dat (dRow xs), .dat (.int k), .dat (dPn p), .own ((prU xs k p.2 i).map dPair), .dat (.int (i : Nat))] (pcond xs k p.2 i) := by
      refine eb_or (eb_test (ei_eq (ei_mod (ei_div (ev_cb (ea_cons (ev_call (ea_cons (ev_var rfl) (ea_cons (ei_add (ev_var rfl) (ei_div (ev_var rfl) ev_int (by decide))) ea_nil)) .mk) ea_nil) cb_int) (ei_add ev_int (ei_mod (ev_var rfl) ev_int (by decide))) ?_) ev_int (by decide)) ev_int)) fun _ => ?_
      · have := mod5 (i : Int)
        omega
      · refine eb_eqV (n := 1) (by decide) (ev_is (ev_tup (ea_cons (ei_div (ev_var rfl) ev_int (by decide)) (ea_cons (ei_mod (ev_var rfl) ev_int (by decide)) ea_nil)) (len_le rfl)) (rfl : _ = dPair ((i : Int) / 5, (i : Int) % 5))) (ev_pass (ev_var rfl)) pl_dPair pl_dPair ?_
        rw [decide_eq_true_iff]
        exact ⟨fun e => by rw [e], fun e => dPair_inj e⟩
    by_cases hc : pcond xs k p.2 i = true
    · have e : prU xs k p.2 (i + 1) = prU xs k p.2 i ++ [((i : Int) / 5, (i : Int) % 5)] := if_pos hc
      rw [hc] at hcnd
      show ExS K (WD E) _ _ (.nx [.dat (dRow xs), .dat (.int k), .dat (dPn p), .own ((prU xs k p.2 (i + 1)).map dPair), .no])
      rw [e, List.map_append]
      exact ex_forget 4 (ex_ifT hcnd (ex_append rfl (ev_tup (ea_cons (ei_div (ev_var rfl) ev_int (by decide)) (ea_cons (ei_mod (ev_var rfl) ev_int (by decide)) ea_nil)) (len_le rfl)) (by rw [List.length_map]; omega))) rfl
    · have e : prU xs k p.2 (i + 1) = prU xs k p.2 i := if_neg hc
      rw [Bool.not_eq_true _ |>.mp hc] at hcnd
      show ExS K (WD E) _ _ (.nx [.dat (dRow xs), .dat (.int k), .dat (dPn p), .own ((prU xs k p.2 (i + 1)).map dPair), .no])
      rw [e]
      exact ex_forget 4 (ex_ifF hcnd ex_next) rfl

/-! ### noise -/
def ns1 (q : Int) (xs : List Int) (k : Int) (w p : Pr) (i : Nat) : Tri := (if p = w then 0 else atF xs (k + 3 * (i : Int)) % q, atF xs (k + 3 * (i : Int) + 1) % q, atF xs (k + 3 * (i : Int) + 2) % q)
def nsU (q : Int) (xs : List Int) (k : Int) (w : Pr) (ps : List Pr) : Nat → List Tri
  | 0 => []
  | i + 1 => nsU q xs k w ps i ++ [ns1 q xs k w (ps.getD i (0, 0)) i]
def nsF (q : Int) (xs : List Int) (k : Int) (w : Pr) (ps : List Pr) : List Tri := nsU q xs k w ps ps.length
theorem nsU_len {q k : Int} {xs : List Int} {w : Pr} {ps : List Pr} : ∀ i : Nat, (nsU q xs k w ps i).length = i
  | 0 => rfl
  | i + 1 => by
    show (nsU q xs k w ps i ++ [_]).length = _
    rw [List.length_append, nsU_len i]
    rfl
theorem nsU_rg {q k : Int} {xs : List Int} {w : Pr} {ps : List Pr} (h : Ord q) : ∀ i : Nat, ∀ x ∈ nsU q xs k w ps i, Rg3 q x
  | 0 => fun _ h => nomatch h
  | i + 1 => fun x hx => by
    rcases List.mem_append.mp hx with hx | hx
    · exact nsU_rg h i x hx
    · rw [List.mem_singleton.mp hx]
      refine ⟨?_, rg_mod h _, rg_mod h _⟩
      show Rg q (if _ then _ else _)
      split
      · exact ⟨Int.le_refl _, h.pos⟩
      · exact rg_mod h _
theorem nsU_get {q k : Int} {xs : List Int} {w : Pr} {ps : List Pr} {j : Nat} : ∀ i : Nat, j < i → (nsU q xs k w ps i)[j]? = some (ns1 q xs k w (ps.getD j (0, 0)) j)
  | 0, h => absurd h (Nat.not_lt_zero _)
  | i + 1, h => by
    show (nsU q xs k w ps i ++ [_])[j]? = _
    by_cases hj : j < i
    · rw [List.getElem?_append_left (by rw [nsU_len]; exact hj)]
      exact nsU_get i hj
    · have e : j = i := by omega
      subst e
      rw [List.getElem?_append_right (by rw [nsU_len]; exact Nat.le_refl _), nsU_len, Nat.sub_self]
      rfl
inductive R__law_noise : Con
  | mk {q k : Int} {xs : List Int} {w : Pr} {ps : List Pr} : Ord q → ps.length ≤ 25 → R__law_noise [.int q, dPs ps, dPair w, dRow xs, .int k] (.ret (dPa (nsF q xs k w ps)))
theorem bd__law_noise {K : PySem.W.Frag} (E : XK) (ds : List PyData) (o : Out) (h : R__law_noise ds o) : Bd K E (t__law_noise K E R__law_at) (ro N__law_noise ds) o := by
  cases h with
  | @mk q k xs w ps hq hl =>
    have hpos := hq.pos
    refine bd_ret (ex_seq (ex_setO (eo_lst ea_nil (len_le rfl)))
      (ex_seq (ex_for (fun i => [.dat (.int q), .dat (dPs ps), .dat (dPair w), .dat (dRow xs), .dat (.int k), .own ((nsU q xs k w ps i).map dPr), .no, .no]) (wk_rng (ea_cons (ev_cb (ea_cons (ev_var rfl) ea_nil) cb_lenL) ea_nil) (by rw [List.length_map]; omega)) rfl fun i d hd => ?_)
      ?_))
    · obtain ⟨hi, rfl⟩ := rngD_get hd
      have hi : i < ps.length := by rw [List.length_map] at hi; omega
      have hgi : ps[i]? = some (ps.getD i (0, 0)) := by rw [List.getD_eq_getElem?_getD, List.getElem?_eq_getElem hi] <;> rfl
      have hil : (nsU q xs k w ps i).length = i := nsU_len i
      refine ⟨_, _, tg_name, ?_⟩
      show ExS K (WD E) _ _ (.nx [.dat (.int q), .dat (dPs ps), .dat (dPair w), .dat (dRow xs), .dat (.int k), .own ((nsU q xs k w ps i ++ [ns1 q xs k w (ps.getD i (0, 0)) i]).map dPr), .no, .no])
      generalize ps.getD i (0, 0) = p at hgi
      rw [List.map_append]
      by_cases hc : p = w
      · subst hc
        have e : ns1 q xs k p p i = (0, atF xs (k + 3 * (i : Int) + 1) % q, atF xs (k + 3 * (i : Int) + 2) % q) := by unfold ns1; rw [if_pos rfl]
        rw [e]
        exact ex_forget 7 (ex_forget 6 (ex_seq (ex_set (ei_mod (ev_cb (ea_cons (ev_call (ea_cons (ev_var rfl) (ea_cons (ei_add (ev_var rfl) (ei_mul ev_int (ev_var rfl) (mulL (by decide) (by decide)))) ea_nil)) .mk) ea_nil) cb_int) (ev_var rfl) hpos))
      (ex_seq (ex_ifT (eb_eqT (n := 1) (by decide) (ev_op (ev_var rfl) (ev_var rfl) (od_ixL (atI_map hgi))) (ev_var rfl) pl_dPair) (ex_set ev_int))
      (ex_append rfl (ev_tup (ea_cons (ev_var rfl) (ea_cons (ev_tup (ea_cons (ei_mod (ev_cb (ea_cons (ev_call (ea_cons (ev_var rfl) (ea_cons (ei_add (ei_add (ev_var rfl) (ei_mul ev_int (ev_var rfl) (mulL (by decide) (by decide)))) ev_int) ea_nil)) .mk) ea_nil) cb_int) (ev_var rfl) hpos) (ea_cons (ei_mod (ev_cb (ea_cons (ev_call (ea_cons (ev_var rfl) (ea_cons (ei_add (ei_add (ev_var rfl) (ei_mul ev_int (ev_var rfl) (mulL (by decide) (by decide)))) ev_int) ea_nil)) .mk) ea_nil) cb_int) (ev_var rfl) hpos) ea_nil)) (len_le rfl)) ea_nil)) (len_le rfl)) (by rw [List.length_map]; omega)))) rfl) rfl
      · have e : ns1 q xs k w p i = (atF xs (k + 3 * (i : Int)) % q, atF xs (k + 3 * (i : Int) + 1) % q, atF xs (k + 3 * (i : Int) + 2) % q) := by unfold ns1; rw [if_neg hc]
        rw [e]
        exact ex_forget 7 (ex_forget 6 (ex_seq (ex_set (ei_mod (ev_cb (ea_cons (ev_call (ea_cons (ev_var rfl) (ea_cons (ei_add (ev_var rfl) (ei_mul ev_int (ev_var rfl) (mulL (by decide) (by decide)))) ea_nil)) .mk) ea_nil) cb_int) (ev_var rfl) hpos))
      (ex_seq (ex_ifF (eb_eqF (n := 1) (by decide) (ev_op (ev_var rfl) (ev_var rfl) (od_ixL (atI_map hgi))) (ev_var rfl) pl_dPair pl_dPair fun z => hc (dPair_inj z)) ex_next)
      (ex_append rfl (ev_tup (ea_cons (ev_var rfl) (ea_cons (ev_tup (ea_cons (ei_mod (ev_cb (ea_cons (ev_call (ea_cons (ev_var rfl) (ea_cons (ei_add (ei_add (ev_var rfl) (ei_mul ev_int (ev_var rfl) (mulL (by decide) (by decide)))) ev_int) ea_nil)) .mk) ea_nil) cb_int) (ev_var rfl) hpos) (ea_cons (ei_mod (ev_cb (ea_cons (ev_call (ea_cons (ev_var rfl) (ea_cons (ei_add (ei_add (ev_var rfl) (ei_mul ev_int (ev_var rfl) (mulL (by decide) (by decide)))) ev_int) ea_nil)) .mk) ea_nil) cb_int) (ev_var rfl) hpos) ea_nil)) (len_le rfl)) ea_nil)) (len_le rfl)) (by rw [List.length_map]; omega)))) rfl) rfl
    · have e : (rngD ((ps.map dPair).length : Int).toNat).length = ps.length := by unfold rngD; rw [List.length_map, List.length_range, List.length_map]; omega
      rw [e]
      exact ex_rest (j := 5) (ds := (nsF q xs k w ps).map dPr) rfl (ex_ret (ev_cb (ea_cons (ev_var rfl) ea_nil) cb_tupL))

/-! ### replays -/
inductive R__law_replayed : Con
  | mkO {q h m c r : Int} {a : Nat → Int} {g : Str} {ps : List Pr} {p f : Tri} {b : Bl} {ns : List Tri} : Ord q → PnOk q p → mk a p % q ≠ 0 → f.1 % q ≠ 0 → BlOk q b → rqs q a p f b ≠ c →
      R__law_replayed [dSet q a, .int (G q h), dRec q p f c r, dCtx g m, dPs ps, dBl b, dPa ns] (.ret (.str "other request"))
  | mk {q h m c r : Int} {a : Nat → Int} {g : Str} {ps : List Pr} {p f : Tri} {b : Bl} {i : Nat} {ns : List Tri} {n : Tri} : Ord q → StOk g m ps → PnOk q p → mk a p % q ≠ 0 → f.1 % q ≠ 0 → BlOk q b → rqs q a p f b = c → Rg q r → grd q a p f h r c = true →
      ps[i]? = some p.2 → ns.length = ps.length → (∀ x ∈ ns, Rg3 q x) → ns[i]? = some n → n.1 = 0 → G q (dot [bsP a p.2, a 2] [b.s, b.s * p.1 % q]) = G q (tkt q a p f b r).A →
      R__law_replayed [dSet q a, .int (G q h), dRec q p f c r, dCtx g m, dPs ps, dBl b, dPa ns] (.ret (dSho q (tkt q a p f b r) (spd q p b (stc q g m ps)) (shP q a g m ps p (tkt q a p f b r) b i ns n)))
theorem bd__law_replayed {K : PySem.W.Frag} (E : XK) (ds : List PyData) (o : Out) (h : R__law_replayed ds o) : Bd K E (t__law_replayed K E R_request_of R_ticket_of R_make_showing) (ro N__law_replayed ds) o := by
  cases h with
  | @mkO q h m c r a g ps p f b ns hq hp hm hf hb hc =>
    exact bd_ret (ex_seq (ex_asg (ev_var rfl) (tg_tup (tgs_cons tg_name (tgs_cons tg_name (tgs_cons tg_name (tgs_cons tg_name tgs_nil)))) rfl))
      (ex_stop (ex_stop (ex_ifT (eb_T (ei_ne (ev_call (ea_cons (ev_var rfl) (ea_cons (ev_var rfl) (ea_cons (ev_var rfl) (ea_cons (ev_var rfl) ea_nil)))) (.mk hq hp hm hf hb)) (ev_var rfl)) (by rw [decide_eq_false hc]; rfl)) (ex_ret ev_str)) trivial) trivial))
  | @mk q h m c r a g ps p f b i ns n hq hst hp hm hf hb hc hr hg hi hnl hnr hni hn0 hG =>
    have hg' : grd q a p f h r (rqs q a p f b) = true := by rw [hc]; exact hg
    exact bd_ret (ex_seq (ex_asg (ev_var rfl) (tg_tup (tgs_cons tg_name (tgs_cons tg_name (tgs_cons tg_name (tgs_cons tg_name tgs_nil)))) rfl))
      (ex_seq (ex_seq (ex_ifF (eb_F (ei_ne (ev_call (ea_cons (ev_var rfl) (ea_cons (ev_var rfl) (ea_cons (ev_var rfl) (ea_cons (ev_var rfl) ea_nil)))) (.mk hq hp hm hf hb)) (ev_var rfl)) (by rw [decide_eq_true hc]; rfl)) ex_next) (ex_set (ev_call (ea_cons (ev_var rfl) (ea_cons (ev_var rfl) (ea_cons (ev_var rfl) (ea_cons (ev_var rfl) (ea_cons (ev_var rfl) (ea_cons (ev_var rfl) ea_nil)))))) (.mk hq hp hm hf hb hr hg'))))
      (ex_ret (ev_call (ea_cons (ev_var rfl) (ea_cons (ev_var rfl) (ea_cons (ev_var rfl) (ea_cons (ev_var rfl) (ea_cons (ev_var rfl) (ea_cons (ev_var rfl) (ea_cons (ev_var rfl) ea_nil))))))) (.mk hq hst hp (rg_mod hq _) hb hi hnl hnr hni hn0 hG)))))
end Ck

/-! A list of one's own is read; a list within a tuple within a list is changed. -/
namespace Ck
open PySem PySem.Spec PyProof.Rows L2

theorem ev_ixO {K : PySem.W.Frag} {r : Ro} {i : Nat} {k : Int} {ti : TE} {ds : List PyData} {d : PyData} (hi : r[i]? = some (.own ds)) (hk : EvD ti r (.int k)) (e : atI ds k = some d) : EvD (tOp (rIx K) (tVar i) ti) r d := fun M0 H0 σ M H R Q q => by
  obtain ⟨a, vs, h1, h2, h3, h4, h5⟩ := R.own i ds hi
  refine ⟨.ref a, h1, hk M0 H0 σ M H R _ fun w M1 H1 g1 r1 => ?_⟩
  cases r1
  obtain ⟨v, e1, e2⟩ := (h5.up g1.m).atI e
  exact .inl ⟨a, vs, k, v, rfl, rfl, SqL.of (g1.h _ _ h4), e1, q v M1 H1 g1 e2⟩

/-! ### a hole: an item that nobody else knows -/
/-- the item t, a tuple of an int and of the list l -/
structure Hole (M H : Hp) (Dl : Addr) (t l : Addr) (acc1 acc2 : List L2.V) (ds1 ds2 : List PyData) (c y z : Int) : Prop where
  d : H Dl = some (.lst (acc1 ++ [.ref t] ++ acc2))
  md : M Dl = none
  ht : H t = some (.tup [.int c, .ref l])
  mt : M t = none
  hl : H l = some (.lst [.int y, .int z])
  ml : M l = none
  r1 : RpA M acc1 ds1
  r2 : RpA M acc2 ds2
theorem Hole.grow {M H M' H' : Hp} {Dl t l : Addr} {acc1 acc2 : List L2.V} {ds1 ds2 : List PyData} {c y z : Int} (h : Hole M H Dl t l acc1 acc2 ds1 ds2 c y z) (g : Grow M H M' H') : Hole M' H' Dl t l acc1 acc2 ds1 ds2 c y z :=
  ⟨g.h _ _ h.d, g.ap _ _ h.md h.d, g.h _ _ h.ht, g.ap _ _ h.mt h.ht, g.h _ _ h.hl, g.ap _ _ h.ml h.hl, h.r1.up g.m, h.r2.up g.m⟩
/-- an expression that gives such an item -/
def EvH (te : TE) (r : Ro) (c y z : Int) : Prop := ∀ (M0 H0 : Hp) (σ : L2.St) (M H : Hp), Rep M0 H0 r σ M H → ∀ Q : VK,
  (∀ t l M' H', Grow M H M' H' → H t = none → H l = none → M' t = none → M' l = none → H' t = some (.tup [.int c, .ref l]) → H' l = some (.lst [.int y, .int z]) → Q (.ref t) H') → te σ H Q
theorem eh_tup {K : PySem.W.Frag} {r : Ro} {ta tb : TE} {c y z : Int} (ha : EvD ta r (.int c)) (hb : EvD tb r (.tuple [.int y, .int z])) : EvH (tTup (tCons ta (tCons (tCB (cLst K) (tCons tb tNil)) tNil))) r c y z := fun M0 H0 σ M H R Q q =>
  ha M0 H0 σ M H R _ fun v M1 H1 g1 r1 => by
    cases r1
    refine (eo_cb (rc := cLst K) (ea_cons hb ea_nil) co_listT) M0 H0 σ M1 H1 (R.grow g1) _ fun l vs M2 H2 g2 n2 m2 h2 r2 => ?_
    refine ⟨(by decide : 2 ≤ sizeLine), fun t ht => ?_⟩
    have hv : vs = [.int y, .int z] := RpA.ints (ns := [y, z]) r2
    subst hv
    have g := (g1.trans g2).newOwn (o := .tup [.int c, .ref l]) ht
    refine q t l M2 _ g ?_ (Same.free g1.h n2) (none_of_same g2.s ht) m2 upd_same ?_
    · exact Same.free (g1.trans g2).h ht
    · rw [upd_ne (ne_of_none h2 ht)]
      exact h2
section
variable {K : PySem.W.Frag} {r rw : Ro} {wi : TI} {g : TG} {te : TE} {vs : List Nat} {items : List PyData}
/-- a comprehension whose item j is such -/
theorem lc_hole (ys : List PyData) (j0 : Nat) (c y z : Int) (hw : WkD wi r items) (hrw : rw = wipeR r vs) (hl : ys.length = items.length) (hle : ys.length ≤ 100000) (hj : j0 < ys.length)
    (hs : ∀ (i : Nat) d y', items[i]? = some d → ys[i]? = some y' → ∃ r1 ws, TgD g rw d r1 ws ∧ (∀ j ∈ ws, j ∈ vs) ∧ (i ≠ j0 → EvD te r1 y') ∧ (i = j0 → EvH te r1 c y z))
    (M0 H0 : Hp) (σ : L2.St) (M H : Hp) (R : Rep M0 H0 r σ M H) (Q : VK)
    (q : ∀ M' H' Dl t l acc1 acc2, Grow M H M' H' → H Dl = none → H t = none → H l = none → Hole M' H' Dl t l acc1 acc2 (ys.take j0) (ys.drop (j0 + 1)) c y z → Q (.ref Dl) H') : tLc wi g tYes te vs σ H Q :=
  hw M0 H0 σ M H R _ fun J Mw Hw gw wk Dl hD => by
  subst hrw
  have Rw : Rep M0 H0 (wipeR r vs) (L2.wipe σ vs) Mw Hw := (R.grow gw).wipe vs
  have base : ∀ {M1 H1 : Hp}, Grow Mw Hw M1 H1 → Rep M0 H0 (wipeR r vs) (L2.wipe σ vs) M1 H1 := fun g => Rw.grow g
  let Pv : Nat → Hp → Hp → Prop := fun i M' H' => Grow Mw Hw M' H' ∧ M' Dl = none ∧ ((i ≤ j0 ∧ ∃ acc, H' Dl = some (.lst acc) ∧ RpA M' acc (ys.take i)) ∨
    (j0 < i ∧ ∃ t l acc1 acc2, Hw t = none ∧ Hw l = none ∧ t ≠ Dl ∧ l ≠ Dl ∧ Hole M' H' Dl t l acc1 acc2 (ys.take j0) ((ys.take i).drop (j0 + 1)) c y z))
  refine ⟨fun i m H' => m = items.length - i ∧ i ≤ items.length ∧ ∃ M', Pv i M' H',
    ⟨items.length, by simp, Nat.zero_le _, Mw, (Grow.refl Rw.g.s).newOwn hD, none_of_same Rw.g.s hD, .inl ⟨Nat.zero_le _, [], upd_same, by rw [List.take_zero]; exact .nil⟩⟩, ?_⟩
  rintro i m H1 ⟨rfl, hi, M1, g1, m1, pv⟩
  by_cases hlt : i < items.length
  · refine .inr ⟨wk.goes i H1 hlt (g1.m.trans g1.s), fun H' => ∃ M', Pv (i + 1) M' H', fun H' p' => ⟨items.length - (i + 1), by omega, rfl, hlt, p'⟩, fun x H' y0 => ?_⟩
    have hd : items[i]? = some items[i] := List.getElem?_eq_getElem hlt
    have hy : ys[i]? = some (ys[i]'(by omega)) := List.getElem?_eq_getElem (by omega)
    obtain ⟨M2, g2, rx⟩ := wk.yields i _ H1 x H' hd (g1.m.trans g1.s) y0 M1 g1.m g1.s
    obtain ⟨r1, ws, h1, hsub, hne, heq⟩ := hs i _ _ hd hy
    refine h1 M0 H0 x (L2.wipe σ vs) M2 H' ((base g1).grow g2) rx _ fun σ2 R2 e2 => ⟨(wipe_more e2 hsub).trans (wipe_wipe σ vs), ?_⟩
    refine eb_yes M0 H0 σ2 M2 H' R2 _ fun M3 H3 g3 => ?_
    rw [if_pos rfl]
    have g23 := g2.trans g3
    have R3 := R2.grow g3
    have etk : ys.take (i + 1) = ys.take i ++ [ys[i]'(by omega)] := by rw [List.take_add_one, hy] <;> rfl
    rcases pv with ⟨hij, acc, d1, ra⟩ | ⟨hij, t, l, acc1, acc2, nt, nl, ntD, nlD, ho⟩
    · have m2 : M3 Dl = none := g23.ap _ _ m1 d1
      have d2 := g23.h _ _ d1
      have hlen : acc.length < sizeLine := by
        rw [ra.length, List.length_take]
        exact Nat.lt_of_le_of_lt (Nat.le_trans (Nat.min_le_right _ _) hle) (by decide)
      by_cases he : i = j0
      · refine heq he M0 H0 σ2 M3 H3 R3 _ fun t l M4 H4 g4 nt nl mt ml ht hl4 => ⟨acc, g4.h _ _ d2, hlen, M4, ?_, g4.ap _ _ m2 d2, .inr ⟨by omega, t, l, acc, [], ?_, ?_, ?_, ?_, ?_⟩⟩
        · exact ((g1.trans g23).trans g4).mut hD (g4.ap _ _ m2 d2)
        · exact Same.free (g1.trans g23).h nt
        · exact Same.free (g1.trans g23).h nl
        · exact fun z => by rw [z, d2] at nt; cases nt
        · exact fun z => by rw [z, d2] at nl; cases nl
        · have ntD : t ≠ Dl := fun z => by rw [z, d2] at nt; cases nt
          have nlD : l ≠ Dl := fun z => by rw [z, d2] at nl; cases nl
          refine ⟨by rw [upd_same, List.append_nil], g4.ap _ _ m2 d2, by rw [upd_ne ntD]; exact ht, mt, by rw [upd_ne nlD]; exact hl4, ml, ?_, ?_⟩
          · rw [← he]
            exact ra.up (g23.trans g4).m
          · rw [he, List.drop_eq_nil_of_le (by rw [List.length_take]; omega)]
            exact .nil
      · refine hne he M0 H0 σ2 M3 H3 R3 _ fun v M4 H4 g4 r4 => ⟨acc, g4.h _ _ d2, hlen, M4, ?_, g4.ap _ _ m2 d2, .inl ⟨by omega, acc ++ [v], upd_same, ?_⟩⟩
        · exact ((g1.trans g23).trans g4).mut hD (g4.ap _ _ m2 d2)
        · rw [etk]
          exact (ra.up (g23.trans g4).m).append (.cons r4 .nil)
    · have ho2 := ho.grow g23
      have he : i ≠ j0 := by omega
      have hlen : (acc1 ++ [L2.V.ref t] ++ acc2).length < sizeLine := by
        rw [List.length_append, List.length_append, ho.r1.length, ho.r2.length, List.length_drop, List.length_take, List.length_take]
        refine Nat.lt_of_le_of_lt (m := 100001) ?_ (by decide)
        show _ + 1 + _ ≤ _
        omega
      refine hne he M0 H0 σ2 M3 H3 R3 _ fun v M4 H4 g4 r4 => ?_
      have ho4 := ho2.grow g4
      refine ⟨_, ho4.d, hlen, M4, ((g1.trans g23).trans g4).mut hD ho4.md, ho4.md, .inr ⟨by omega, t, l, acc1, acc2 ++ [v], nt, nl, ntD, nlD, ?_⟩⟩
      refine ⟨by rw [upd_same, List.append_assoc], ho4.md, by rw [upd_ne ntD]; exact ho4.ht, ho4.mt, by rw [upd_ne nlD]; exact ho4.hl, ho4.ml, ho4.r1, ?_⟩
      rw [etk, List.drop_append_of_le_length (by rw [List.length_take]; omega)]
      exact ho4.r2.append (.cons r4 .nil)
  · have e : i = items.length := by omega
    subst e
    rcases pv with ⟨hij, _⟩ | ⟨hij, t, l, acc1, acc2, nt, nl, ntD, nlD, ho⟩
    · omega
    · rw [← hl, List.take_length] at ho
      exact .inl ⟨wk.stops H1 (g1.m.trans g1.s), q M1 H1 Dl t l acc1 acc2 (gw.trans g1) (Same.free gw.h hD) (Same.free gw.h nt) (Same.free gw.h nl) ho⟩
end
end Ck

/-! The changed list within a tuple within a list. -/
namespace Ck
open PySem PySem.Spec PyProof.Rows L2

/-- a value that changes no heap -/
def PV (te : TE) (σ : L2.St) (H : Hp) (v : L2.V) : Prop := ∀ Q : VK, Q v H → te σ H Q
section
variable {σ : L2.St} {H : Hp} {ta tb : TE} {x y z : L2.V}
theorem pv_v {i : Nat} (h : σ[i]? = some (some x)) : PV (tVar i) σ H x := fun Q q => ⟨x, h, q⟩
theorem pv_c : PV (tC x) σ H x := fun Q q => q
theorem pv_op {r : R2} (ha : PV ta σ H x) (hb : PV tb σ H y) (h : ∀ Q : VK, Q z H → r x y H Q) : PV (tOp r ta tb) σ H z := fun Q q => ha _ (hb _ (h Q q))
theorem pv_cb {rc : List L2.V → Hp → VK → Prop} (ha : PV ta σ H x) (h : ∀ Q : VK, Q z H → rc [x] H Q) : PV (tCB rc (tCons ta tNil)) σ H z := fun Q q => ha _ (h Q q)
end
/-- a pair of a noise with its numbers in a list -/
def dPrL (p : Tri) : PyData := .tuple [.int p.1, .list [.int p.2.1, .int p.2.2]]
/-- exponent e of a pair, one more -/
def vE (q : Int) (n : Tri) : Nat → Tri
  | 0 => (n.1, (n.2.1 + 1) % q, n.2.2)
  | _ => (n.1, n.2.1, (n.2.2 + 1) % q)
abbrev tLL (K : PySem.W.Frag) : TE := tLc (iSeq K (tVar 1)) (gName 11) tYes (tTup (tCons (tOp (rIx K) (tVar 11) (tC (.int 0))) (tCons (tCB (cLst K) (tCons (tOp (rIx K) (tVar 11) (tC (.int 1))) tNil)) tNil))) [11]
abbrev tIn (K : PySem.W.Frag) : TE := tOp (rIx K) (tOp (rIx K) (tVar 7) (tVar 6)) (tC (.int 1))
abbrev tB6 (K : PySem.W.Frag) : TS := tAsg (tOp aMod (tCB cInt (tCons (tOp aAdd (tOp (rIx K) (tIn K) (tOp aMod (tVar 5) (tC (.int 2)))) (tC (.int 1))) tNil)) (tVar 3)) (gSub (tIn K) (tOp aMod (tVar 5) (tC (.int 2))) rSetL)
abbrev rV (b : Bl) (ns : List Tri) (m q own k : Int) (j : Nat) : Ro := [.dat (dBl b), .dat (dPa ns), .dat (.int m), .dat (.int q), .dat (.int own), .dat (.int k), .dat (.int (j : Nat)), .no, .no, .no, .no, .no]
theorem int_of {r : Ro} {M0 H0 M H : Hp} {σ : L2.St} (R : Rep M0 H0 r σ M H) {i : Nat} {k : Int} (h : r[i]? = some (.dat (.int k))) : σ[i]? = some (some (.int k)) := by
  obtain ⟨v, h1, h2⟩ := R.dat i _ h
  cases h2
  exact h1
theorem ex_holeB {K : PySem.W.Frag} {W : WX} {o : Res} {b : Bl} {ns : List Tri} {m q own k : Int} {j e : Nat} {n : Tri} {cond : TT} {A rest : TS} (hj : ns[j]? = some n) (hl : ns.length ≤ 25) (he : e < 2) (hk : k % 2 = (e : Nat)) (hq : 0 < q)
    (hcond : EvB cond (rV b ns m q own k j) false) (hrest : ExS K W rest ((rV b ns m q own k j).set 7 (.dat (.list ((ns.set j (vE q n e)).map dPrL)))) o) :
    ExS K W (tSeq (tAsg (tLL K) (gName 7)) (tSeq (tIfS cond A (tB6 K)) rest)) (rV b ns m q own k j) o := fun M0 H0 D σ M H R p => by
  have hjl : j < ns.length := (List.getElem?_eq_some_iff.mp hj).1
  show tLL K σ H (fun x H1 => gName 7 x σ H1 (tSeq (tIfS cond A (tB6 K)) rest D))
  refine lc_hole (items := ns.map dPr) (ns.map dPrL) j n.1 n.2.1 n.2.2 (ws_tup (ev_var rfl)) rfl (by rw [List.length_map, List.length_map]) (by rw [List.length_map]; omega) (by rw [List.length_map]; exact hjl) (fun i d y' hd hy => ?_) M0 H0 σ M H R _ fun M1 H1 Dl t l acc1 acc2 g nD nt nl ho => ?_
  · obtain ⟨p1, h1, rfl⟩ := map_get hd
    obtain ⟨p2, h2, rfl⟩ := map_get hy
    rw [h1] at h2
    cases h2
    refine ⟨_, _, tg_name, fun j hj => hj, fun _ => ev_tup (ea_cons (ev_op (ev_var rfl) ev_int (od_ixT rfl)) (ea_cons (ev_rest (eo_cb (ea_cons (ev_op (ev_var rfl) ev_int (od_ixT rfl)) ea_nil) co_listT)) ea_nil)) (len_le rfl), fun hij => ?_⟩
    subst hij
    rw [hj] at h1
    cases h1
    exact eh_tup (ev_op (ev_var rfl) ev_int (od_ixT rfl)) (ev_op (ev_var rfl) ev_int (od_ixT rfl))
  · have hlen : σ.length = 12 := R.len
    have R1 : Rep M0 H0 (rV b ns m q own k j) (σ.set 7 (some (.ref Dl))) M1 H1 := (R.grow g).drop (j := 7)
    have s7 : (σ.set 7 (some (L2.V.ref Dl)))[7]? = some (some (.ref Dl)) := List.getElem?_set_self (by omega)
    have ess : (σ.set 7 (some (L2.V.ref Dl))).set 7 (some (.ref Dl)) = σ.set 7 (some (.ref Dl)) := List.set_set ..
    show tIfS cond A (tB6 K) { D with nx := rest D } (σ.set 7 (some (.ref Dl))) H1
    generalize σ.set 7 (some (L2.V.ref Dl)) = σ7 at R1 s7 ess
    refine hcond M0 H0 σ7 M1 H1 R1 _ fun M2 H2 g2 => ?_
    rw [if_neg Bool.false_ne_true]
    have ho2 := ho.grow g2
    have R2 := R1.grow g2
    have s6 := int_of R2 (i := 6) rfl
    have s5 := int_of R2 (i := 5) rfl
    have s3 := int_of R2 (i := 3) rfl
    have a1 : acc1.length = j := by rw [ho.r1.length, List.length_take, List.length_map]; omega
    have hin : PV (tIn K) σ7 H2 (.ref l) := by
      refine pv_op (pv_op (pv_v s7) (pv_v s6) fun Q q' => ?_ : PV _ σ7 H2 (.ref t)) pv_c fun Q q' => ?_
      · refine .inl ⟨Dl, _, (j : Int), .ref t, rfl, rfl, SqL.of ho2.d, atI_nat ?_, q'⟩
        rw [List.append_assoc, List.getElem?_append_right (by omega), a1, Nat.sub_self] <;> rfl
      · exact .inr (.inl ⟨t, _, 1, .ref l, rfl, rfl, SqT.of ho2.ht, rfl, q'⟩)
    have hix : PV (tOp aMod (tVar 5) (tC (.int 2))) σ7 H2 (.int (e : Nat)) := pv_op (pv_v s5) pv_c fun Q q' => ⟨_, _, rfl, rfl, (by decide : (0 : Int) < 2), by show Q (.int (k % 2)) H2; rw [hk]; exact q'⟩
    obtain ⟨c0, y0, z0⟩ := n
    have hval : ∃ v, PV (tOp aMod (tCB cInt (tCons (tOp aAdd (tOp (rIx K) (tIn K) (tOp aMod (tVar 5) (tC (.int 2)))) (tC (.int 1))) tNil)) (tVar 3)) σ7 H2 (.int v) ∧ ([L2.V.int y0, .int z0].set e (.int v) = [.int (vE q (c0, y0, z0) e).2.1, .int (vE q (c0, y0, z0) e).2.2] ∧ (vE q (c0, y0, z0) e).1 = c0) := by
      match e, he, hix with
      | 0, _, hix =>
        refine ⟨(y0 + 1) % q, pv_op (pv_cb (pv_op (pv_op hin hix fun Q q' => ?_ : PV _ σ7 H2 (.int y0)) pv_c fun Q q' => ⟨_, _, rfl, rfl, q'⟩) fun Q q' => .inl ⟨_, rfl, q'⟩) (pv_v s3) fun Q q' => ⟨_, _, rfl, rfl, hq, q'⟩, rfl, rfl⟩
        exact .inl ⟨l, _, 0, .int y0, rfl, rfl, SqL.of ho2.hl, rfl, q'⟩
      | 1, _, hix =>
        refine ⟨(z0 + 1) % q, pv_op (pv_cb (pv_op (pv_op hin hix fun Q q' => ?_ : PV _ σ7 H2 (.int z0)) pv_c fun Q q' => ⟨_, _, rfl, rfl, q'⟩) fun Q q' => .inl ⟨_, rfl, q'⟩) (pv_v s3) fun Q q' => ⟨_, _, rfl, rfl, hq, q'⟩, rfl, rfl⟩
        exact .inl ⟨l, _, 1, .int z0, rfl, rfl, SqL.of ho2.hl, rfl, q'⟩
    obtain ⟨v, pv, ev, ec⟩ := hval
    refine pv _ (hin _ (hix _ ⟨l, _, _, e, rfl, rfl, ho2.hl, ?_, ?_⟩))
    · show ixN 2 (e : Int) = some e
      match e, he with
      | 0, _ => rfl
      | 1, _ => rfl
    show rest D σ7 (upd H2 l (.lst ([L2.V.int y0, .int z0].set e (.int v))))
    rw [ev]
    generalize hY : (vE q (c0, y0, z0) e).2.1 = Y at *
    generalize hZ : (vE q (c0, y0, z0) e).2.2 = Z at *
    have hnew : dPrL (vE q (c0, y0, z0) e) = .tuple [.int c0, .list [.int Y, .int Z]] := by
      show PyData.tuple [.int (vE q (c0, y0, z0) e).1, .list [.int (vE q (c0, y0, z0) e).2.1, .int (vE q (c0, y0, z0) e).2.2]] = _
      rw [ec, hY, hZ]
    have f0 : ∀ {x : Addr}, H x = none → H0 x = none := fun h => Same.free R.g.h h
    have ntl : t ≠ l := fun z => by
      have h1 := ho2.ht
      rw [z, ho2.hl] at h1
      cases h1
    have nDt : Dl ≠ t := fun z => by
      have h1 := ho2.d
      rw [z, ho2.ht] at h1
      cases h1
    have nDl : Dl ≠ l := fun z => by
      have h1 := ho2.d
      rw [z, ho2.hl] at h1
      have h2 : [L2.V.int y0, .int z0] = acc1 ++ [.ref t] ++ acc2 := by
        injection h1 with h1
        injection h1 with h1
      have h3 : L2.V.ref t ∈ [L2.V.int y0, .int z0] := by
        rw [h2]
        simp
      simp at h3
    have g3 : Grow M0 H0 M2 (upd H2 l (.lst [.int Y, .int Z])) := R2.g.mut (f0 nl) ho2.ml
    have g4 := g3.rest (f0 nl) ho2.ml upd_same
    have g5 := g4.rest (p := t) (o := .tup [.int c0, .ref l]) (f0 nt) (by rw [upd_ne ntl]; exact ho2.mt) (by rw [upd_ne ntl]; exact ho2.ht)
    have g6 := g5.rest (p := Dl) (o := .lst (acc1 ++ [.ref t] ++ acc2)) (f0 nD) (by rw [upd_ne nDt, upd_ne nDl]; exact ho2.md) (by rw [upd_ne nDl]; exact ho2.d)
    have s2 : Same M2 (upd (upd (upd M2 l (.lst [.int Y, .int Z])) t (.tup [.int c0, .ref l])) Dl (.lst (acc1 ++ [.ref t] ++ acc2))) :=
      (same_upd ho2.ml).trans ((same_upd (by rw [upd_ne ntl]; exact ho2.mt)).trans (same_upd (by rw [upd_ne nDt, upd_ne nDl]; exact ho2.md)))
    have kD : upd (upd (upd M2 l (.lst [.int Y, .int Z])) t (.tup [.int c0, .ref l])) Dl (.lst (acc1 ++ [.ref t] ++ acc2)) Dl = some (.lst (acc1 ++ [.ref t] ++ acc2)) := upd_same
    have kt : upd (upd (upd M2 l (.lst [.int Y, .int Z])) t (.tup [.int c0, .ref l])) Dl (.lst (acc1 ++ [.ref t] ++ acc2)) t = some (.tup [.int c0, .ref l]) := by rw [upd_ne nDt.symm]; exact upd_same
    have kl : upd (upd (upd M2 l (.lst [.int Y, .int Z])) t (.tup [.int c0, .ref l])) Dl (.lst (acc1 ++ [.ref t] ++ acc2)) l = some (.lst [.int Y, .int Z]) := by rw [upd_ne nDl.symm, upd_ne ntl.symm]; exact upd_same
    generalize upd (upd (upd M2 l (.lst [.int Y, .int Z])) t (.tup [.int c0, .ref l])) Dl (.lst (acc1 ++ [.ref t] ++ acc2)) = M3 at g6 s2 kD kt kl
    have no : ∀ (i : Nat) ds, (rV b ns m q own k j)[i]? ≠ some (.own ds) := fun i ds z => by
      have := List.mem_of_getElem? z
      simp at this
    have R3 : Rep M0 H0 (rV b ns m q own k j) σ7 M3 (upd H2 l (.lst [.int Y, .int Z])) := ⟨g6, R2.len, fun i d z => by
      obtain ⟨w, h1, h2⟩ := R2.dat i d z
      exact ⟨w, h1, h2.up s2⟩, fun i ds z => absurd z (no i ds), fun i _ ds _ _ z => absurd z (no i ds), fun i w mm z => ⟨(R2.frz i w mm z).1, (R2.frz i w mm z).2.trans s2⟩⟩
    have hdat : Rp M3 (.ref Dl) (.list ((ns.set j (vE q (c0, y0, z0) e)).map dPrL)) := by
      refine .lst kD ?_
      rw [List.map_set, ← set_cut (by rw [List.length_map]; exact hjl), hnew]
      exact ((ho2.r1.up s2).append (.cons (.tup kt (.cons (.int _) (.cons (.lst kl (.cons (.int _) (.cons (.int _) .nil))) .nil))) .nil)).append (ho2.r2.up s2)
    have R4 := R3.put (j := 7) hdat
    rw [ess] at R4
    exact hrest M0 H0 D σ7 M3 _ R4 (p.later ((g.m.trans g2.m).trans s2))
end Ck

/-! What _law_varied hands back. -/
namespace Ck
open PySem PySem.Spec PyProof.Rows L2

theorem take3 {x y z : PyData} {xs : List PyData} : cutD (x :: y :: z :: xs) none (some 3) = [x, y, z] := by
  have := cut_take (xs := x :: y :: z :: xs) (i := 3) (by simp)
  exact this
/-- a blinding, one number changed -/
def vB (q : Int) (b : Bl) : Nat → Bl
  | 0 => { b with s := 1 + (b.s - 1 + 1) % (q - 1) }
  | 1 => { b with u := 1 + (b.u - 1 + 1) % (q - 1) }
  | 2 => { b with v := 0 + (b.v - 0 + 1) % (q - 0) }
  | 3 => { b with x0 := (b.x0 + 1) % q }
  | 4 => { b with x1 := (b.x1 + 1) % q }
  | 5 => { b with x2 := (b.x2 + 1) % q }
  | _ => { b with x3 := (b.x3 + 1) % q }
inductive R__law_varied : Con
  | mkB {q m own : Int} {b : Bl} {ns : List Tri} {k : Nat} : Ord q → k < 7 → m % 10 = (k : Nat) → R__law_varied [dBl b, dPa ns, .int m, .int q, .int own] (.ret (.tuple [dBl (vB q b k), dPa ns]))
  | mkC {q m own : Int} {b : Bl} {ns : List Tri} {j : Nat} {n : Tri} : Ord q → m % 10 = 7 → m / 10 % (ns.length : Int) = (j : Nat) → (j : Int) ≠ own → ns[j]? = some n → ns.length ≤ 25 →
      R__law_varied [dBl b, dPa ns, .int m, .int q, .int own] (.ret (.tuple [dBl b, dPa (ns.set j ((n.1 + 1) % q, n.2))]))
  | mkE {q m own : Int} {b : Bl} {ns : List Tri} {j k e : Nat} {n : Tri} : Ord q → m % 10 = (k : Nat) → (k = 7 ∧ (j : Int) = own ∧ e = 1 ∨ k = 8 ∧ e = 0 ∨ k = 9 ∧ e = 1) → m / 10 % (ns.length : Int) = (j : Nat) → ns[j]? = some n → ns.length ≤ 25 →
      R__law_varied [dBl b, dPa ns, .int m, .int q, .int own] (.ret (.tuple [dBl b, dPa (ns.set j (vE q n e))]))
theorem ev_back {K : PySem.W.Frag} {r : Ro} {ns : List Tri} (h7 : r[7]? = some (.dat (.list (ns.map dPrL)))) (h11 : 11 < r.length) (hl : ns.length ≤ 25) :
    EvD (tCB (cTup K) (tCons (tLc (iSeq K (tVar 7)) (gName 11) tYes (tTup (tCons (tOp (rIx K) (tVar 11) (tC (.int 0))) (tCons (tCB (cTup K) (tCons (tOp (rIx K) (tVar 11) (tC (.int 1))) tNil)) tNil))) [11]) tNil)) r (dPa ns) := by
  refine ev_cb (ea_cons (ev_rest (eo_lc (ns.map dPr) (ws_list (ev_var h7)) rfl (by rw [List.length_map, List.length_map]) (by rw [List.length_map]; omega) fun i d y hd hy => ?_)) ea_nil) cb_tupL
  obtain ⟨p1, h1, rfl⟩ := map_get hd
  obtain ⟨p2, h2, rfl⟩ := map_get hy
  rw [h1] at h2
  cases h2
  have e11 : ((wipeR r [11]).set 11 (.dat (dPrL p1)))[11]? = some (.dat (dPrL p1)) := List.getElem?_set_self (by show 11 < ((r).set 11 .no).length; rw [List.length_set]; exact h11)
  exact ⟨_, _, tg_name, fun j hj => hj, ev_tup (ea_cons (ev_op (ev_var e11) ev_int (od_ixT rfl)) (ea_cons (ev_cb (ea_cons (ev_op (ev_var e11) ev_int (od_ixT rfl)) ea_nil) cb_tupL) ea_nil)) (len_le rfl)⟩
theorem bd__law_varied {K : PySem.W.Frag} (E : XK) (ds : List PyData) (o : Out) (h : R__law_varied ds o) : Bd K E (t__law_varied K E) (ro N__law_varied ds) o := by
  cases h with
  | @mkB q m own b ns k hq hk7 hk =>
    have h1 := hq.lo
    have hpos := hq.pos
    match k, hk7, hk with
    | 0, _, hk =>
      exact bd_ret (ex_seq (ex_set (ev_is (ei_mod (ev_cb (ea_cons (ev_var rfl) ea_nil) cb_int) ev_int (by decide)) (congrArg PyData.int hk)))
      (ex_stop (ex_ifT (eb_T (ei_lt (ev_var rfl) ev_int) rfl) (ex_seq (ex_set (ev_is (ev_cb (ea_cons (ei_lt (ev_var rfl) ev_int) ea_nil) cb_intB) (rfl : _ = PyData.int 1)))
      (ex_seq (ex_setO (eo_cb (ea_cons (ev_is (ev_slT (ev_var rfl) ep_none (ep_some ev_int)) (congrArg PyData.tuple take3)) ea_nil) co_listT))
      (ex_seq (ex_setItem (j := 0) rfl (ei_add (ev_var rfl) (ei_mod (ev_cb (ea_cons (ei_add (ei_sub (ev_ixO rfl (ev_var rfl) rfl) (ev_var rfl)) ev_int) ea_nil) cb_int) (ei_sub (ev_var rfl) (ev_var rfl)) (by omega))) (ev_var rfl) rfl)
      (ex_rest (j := 9) rfl (ex_ret (ev_tup (ea_cons (ev_op (ev_cb (ea_cons (ev_var rfl) ea_nil) cb_tupL) (ev_tup (ea_cons (ev_op (ev_var rfl) ev_int (od_ixT rfl)) ea_nil) (len_le rfl)) (od_catT (Nat.le_of_ble_eq_true rfl))) (ea_cons (ev_var rfl) ea_nil)) (len_le rfl)))))))) trivial))
    | 1, _, hk =>
      exact bd_ret (ex_seq (ex_set (ev_is (ei_mod (ev_cb (ea_cons (ev_var rfl) ea_nil) cb_int) ev_int (by decide)) (congrArg PyData.int hk)))
      (ex_stop (ex_ifT (eb_T (ei_lt (ev_var rfl) ev_int) rfl) (ex_seq (ex_set (ev_is (ev_cb (ea_cons (ei_lt (ev_var rfl) ev_int) ea_nil) cb_intB) (rfl : _ = PyData.int 1)))
      (ex_seq (ex_setO (eo_cb (ea_cons (ev_is (ev_slT (ev_var rfl) ep_none (ep_some ev_int)) (congrArg PyData.tuple take3)) ea_nil) co_listT))
      (ex_seq (ex_setItem (j := 1) rfl (ei_add (ev_var rfl) (ei_mod (ev_cb (ea_cons (ei_add (ei_sub (ev_ixO rfl (ev_var rfl) rfl) (ev_var rfl)) ev_int) ea_nil) cb_int) (ei_sub (ev_var rfl) (ev_var rfl)) (by omega))) (ev_var rfl) rfl)
      (ex_rest (j := 9) rfl (ex_ret (ev_tup (ea_cons (ev_op (ev_cb (ea_cons (ev_var rfl) ea_nil) cb_tupL) (ev_tup (ea_cons (ev_op (ev_var rfl) ev_int (od_ixT rfl)) ea_nil) (len_le rfl)) (od_catT (Nat.le_of_ble_eq_true rfl))) (ea_cons (ev_var rfl) ea_nil)) (len_le rfl)))))))) trivial))
    | 2, _, hk =>
      exact bd_ret (ex_seq (ex_set (ev_is (ei_mod (ev_cb (ea_cons (ev_var rfl) ea_nil) cb_int) ev_int (by decide)) (congrArg PyData.int hk)))
      (ex_stop (ex_ifT (eb_T (ei_lt (ev_var rfl) ev_int) rfl) (ex_seq (ex_set (ev_is (ev_cb (ea_cons (ei_lt (ev_var rfl) ev_int) ea_nil) cb_intB) (rfl : _ = PyData.int 0)))
      (ex_seq (ex_setO (eo_cb (ea_cons (ev_is (ev_slT (ev_var rfl) ep_none (ep_some ev_int)) (congrArg PyData.tuple take3)) ea_nil) co_listT))
      (ex_seq (ex_setItem (j := 2) rfl (ei_add (ev_var rfl) (ei_mod (ev_cb (ea_cons (ei_add (ei_sub (ev_ixO rfl (ev_var rfl) rfl) (ev_var rfl)) ev_int) ea_nil) cb_int) (ei_sub (ev_var rfl) (ev_var rfl)) (by omega))) (ev_var rfl) rfl)
      (ex_rest (j := 9) rfl (ex_ret (ev_tup (ea_cons (ev_op (ev_cb (ea_cons (ev_var rfl) ea_nil) cb_tupL) (ev_tup (ea_cons (ev_op (ev_var rfl) ev_int (od_ixT rfl)) ea_nil) (len_le rfl)) (od_catT (Nat.le_of_ble_eq_true rfl))) (ea_cons (ev_var rfl) ea_nil)) (len_le rfl)))))))) trivial))
    | 3, _, hk =>
      exact bd_ret (ex_seq (ex_set (ev_is (ei_mod (ev_cb (ea_cons (ev_var rfl) ea_nil) cb_int) ev_int (by decide)) (congrArg PyData.int hk)))
      (ex_seq (ex_ifF (eb_F (ei_lt (ev_var rfl) ev_int) rfl) ex_next)
      (ex_stop (ex_ifT (eb_T (ei_lt (ev_var rfl) ev_int) rfl) (ex_seq (ex_setO (eo_cb (ea_cons (ev_op (ev_var rfl) ev_int (od_ixT rfl)) ea_nil) co_listT))
      (ex_seq (ex_setItem (j := 0) rfl (ei_mod (ev_cb (ea_cons (ei_add (ev_ixO rfl (ei_sub (ev_var rfl) ev_int) rfl) ev_int) ea_nil) cb_int) (ev_var rfl) hpos) (ei_sub (ev_var rfl) ev_int) rfl)
      (ex_rest (j := 10) rfl (ex_ret (ev_tup (ea_cons (ev_op (ev_is (ev_slT (ev_var rfl) ep_none (ep_some ev_int)) (congrArg PyData.tuple take3)) (ev_tup (ea_cons (ev_cb (ea_cons (ev_var rfl) ea_nil) cb_tupL) ea_nil) (len_le rfl)) (od_catT (Nat.le_of_ble_eq_true rfl))) (ea_cons (ev_var rfl) ea_nil)) (len_le rfl))))))) trivial)))
    | 4, _, hk =>
      exact bd_ret (ex_seq (ex_set (ev_is (ei_mod (ev_cb (ea_cons (ev_var rfl) ea_nil) cb_int) ev_int (by decide)) (congrArg PyData.int hk)))
      (ex_seq (ex_ifF (eb_F (ei_lt (ev_var rfl) ev_int) rfl) ex_next)
      (ex_stop (ex_ifT (eb_T (ei_lt (ev_var rfl) ev_int) rfl) (ex_seq (ex_setO (eo_cb (ea_cons (ev_op (ev_var rfl) ev_int (od_ixT rfl)) ea_nil) co_listT))
      (ex_seq (ex_setItem (j := 1) rfl (ei_mod (ev_cb (ea_cons (ei_add (ev_ixO rfl (ei_sub (ev_var rfl) ev_int) rfl) ev_int) ea_nil) cb_int) (ev_var rfl) hpos) (ei_sub (ev_var rfl) ev_int) rfl)
      (ex_rest (j := 10) rfl (ex_ret (ev_tup (ea_cons (ev_op (ev_is (ev_slT (ev_var rfl) ep_none (ep_some ev_int)) (congrArg PyData.tuple take3)) (ev_tup (ea_cons (ev_cb (ea_cons (ev_var rfl) ea_nil) cb_tupL) ea_nil) (len_le rfl)) (od_catT (Nat.le_of_ble_eq_true rfl))) (ea_cons (ev_var rfl) ea_nil)) (len_le rfl))))))) trivial)))
    | 5, _, hk =>
      exact bd_ret (ex_seq (ex_set (ev_is (ei_mod (ev_cb (ea_cons (ev_var rfl) ea_nil) cb_int) ev_int (by decide)) (congrArg PyData.int hk)))
      (ex_seq (ex_ifF (eb_F (ei_lt (ev_var rfl) ev_int) rfl) ex_next)
      (ex_stop (ex_ifT (eb_T (ei_lt (ev_var rfl) ev_int) rfl) (ex_seq (ex_setO (eo_cb (ea_cons (ev_op (ev_var rfl) ev_int (od_ixT rfl)) ea_nil) co_listT))
      (ex_seq (ex_setItem (j := 2) rfl (ei_mod (ev_cb (ea_cons (ei_add (ev_ixO rfl (ei_sub (ev_var rfl) ev_int) rfl) ev_int) ea_nil) cb_int) (ev_var rfl) hpos) (ei_sub (ev_var rfl) ev_int) rfl)
      (ex_rest (j := 10) rfl (ex_ret (ev_tup (ea_cons (ev_op (ev_is (ev_slT (ev_var rfl) ep_none (ep_some ev_int)) (congrArg PyData.tuple take3)) (ev_tup (ea_cons (ev_cb (ea_cons (ev_var rfl) ea_nil) cb_tupL) ea_nil) (len_le rfl)) (od_catT (Nat.le_of_ble_eq_true rfl))) (ea_cons (ev_var rfl) ea_nil)) (len_le rfl))))))) trivial)))
    | 6, _, hk =>
      exact bd_ret (ex_seq (ex_set (ev_is (ei_mod (ev_cb (ea_cons (ev_var rfl) ea_nil) cb_int) ev_int (by decide)) (congrArg PyData.int hk)))
      (ex_seq (ex_ifF (eb_F (ei_lt (ev_var rfl) ev_int) rfl) ex_next)
      (ex_stop (ex_ifT (eb_T (ei_lt (ev_var rfl) ev_int) rfl) (ex_seq (ex_setO (eo_cb (ea_cons (ev_op (ev_var rfl) ev_int (od_ixT rfl)) ea_nil) co_listT))
      (ex_seq (ex_setItem (j := 3) rfl (ei_mod (ev_cb (ea_cons (ei_add (ev_ixO rfl (ei_sub (ev_var rfl) ev_int) rfl) ev_int) ea_nil) cb_int) (ev_var rfl) hpos) (ei_sub (ev_var rfl) ev_int) rfl)
      (ex_rest (j := 10) rfl (ex_ret (ev_tup (ea_cons (ev_op (ev_is (ev_slT (ev_var rfl) ep_none (ep_some ev_int)) (congrArg PyData.tuple take3)) (ev_tup (ea_cons (ev_cb (ea_cons (ev_var rfl) ea_nil) cb_tupL) ea_nil) (len_le rfl)) (od_catT (Nat.le_of_ble_eq_true rfl))) (ea_cons (ev_var rfl) ea_nil)) (len_le rfl))))))) trivial)))
  | @mkC q m own b ns j n hq hk hj hjo hn hl =>
    have hpos := hq.pos
    have hjl : j < ns.length := (List.getElem?_eq_some_iff.mp hn).1
    refine bd_ret (ex_seq (ex_set (ev_is (ei_mod (ev_cb (ea_cons (ev_var rfl) ea_nil) cb_int) ev_int (by decide)) (congrArg PyData.int hk)))
      (ex_seq (ex_ifF (eb_F (ei_lt (ev_var rfl) ev_int) rfl) ex_next)
      (ex_seq (ex_ifF (eb_F (ei_lt (ev_var rfl) ev_int) rfl) ex_next)
      (ex_seq (ex_set (ev_is (ei_mod (ei_div (ev_cb (ea_cons (ev_var rfl) ea_nil) cb_int) ev_int (by decide)) (ev_cb (ea_cons (ev_var rfl) ea_nil) cb_lenT) ?_) (congrArg PyData.int (?_ : _ = (j : Int)))))
      (ex_seq (ex_setO (eo_lc (ns.map dPrL) (ws_tup (ev_var rfl)) rfl (by rw [List.length_map, List.length_map]) (by rw [List.length_map]; omega) fun i d y hd hy => ?_))
      (ex_seq (ex_ifT (eb_andT (eb_T (ei_eq (ev_var rfl) ev_int) rfl) (eb_T (ei_ne (ev_var rfl) (ev_var rfl)) (by rw [decide_eq_false hjo]; rfl)))
        (ex_setItem (j := j) rfl (ev_tup (ea_cons (ei_mod (ev_cb (ea_cons (ei_add (ev_op (ev_ixO rfl (ev_var rfl) (atI_map hn)) ev_int (od_ixT rfl)) ev_int) ea_nil) cb_int) (ev_var rfl) hpos) (ea_cons (ev_op (ev_ixO rfl (ev_var rfl) (atI_map hn)) ev_int (od_ixT rfl)) ea_nil)) (len_le rfl)) (ev_var rfl) (by rw [List.length_map]; exact ixN_nat hjl)))
      (ex_rest (j := 7) rfl (ex_ret (ev_tup (ea_cons (ev_var rfl) (ea_cons (ev_back (ns := ns.set j ((n.1 + 1) % q, n.2)) ?_ (Nat.le_of_ble_eq_true rfl) (by rw [List.length_set]; exact hl)) ea_nil)) (len_le rfl))))))))))
    · rw [List.length_map]; omega
    · rw [List.length_map]; exact hj
    · obtain ⟨p1, h1, rfl⟩ := map_get hd
      obtain ⟨p2, h2, rfl⟩ := map_get hy
      rw [h1] at h2
      cases h2
      exact ⟨_, _, tg_name, fun j hj => hj, ev_tup (ea_cons (ev_op (ev_var rfl) ev_int (od_ixT rfl)) (ea_cons (ev_rest (eo_cb (ea_cons (ev_op (ev_var rfl) ev_int (od_ixT rfl)) ea_nil) co_listT)) ea_nil)) (len_le rfl)⟩
    · rw [List.map_set]
      rfl
  | @mkE q m own b ns j k e n hq hk hke hj hn hl =>
    have hpos := hq.pos
    have hjl : j < ns.length := (List.getElem?_eq_some_iff.mp hn).1
    have hk7 : ¬ ((k : Int) < 7) := by omega
    refine bd_ret (ex_seq (ex_set (ev_is (ei_mod (ev_cb (ea_cons (ev_var rfl) ea_nil) cb_int) ev_int (by decide)) (congrArg PyData.int hk)))
      (ex_seq (ex_ifF (eb_F (ei_lt (ev_var rfl) ev_int) (decide_eq_false (by omega))) ex_next)
      (ex_seq (ex_ifF (eb_F (ei_lt (ev_var rfl) ev_int) (decide_eq_false hk7)) ex_next)
      (ex_seq (ex_set (ev_is (ei_mod (ei_div (ev_cb (ea_cons (ev_var rfl) ea_nil) cb_int) ev_int (by decide)) (ev_cb (ea_cons (ev_var rfl) ea_nil) cb_lenT) ?_) (congrArg PyData.int (?_ : _ = (j : Int)))))
      ?_))))
    · rw [List.length_map]; omega
    · rw [List.length_map]; exact hj
    refine ex_holeB (b := b) (ns := ns) (m := m) (q := q) (own := own) (k := (k : Int)) (j := j) (e := e) hn hl (by omega) (by omega) hpos ?_ (ex_ret (ev_tup (ea_cons (ev_var rfl) (ea_cons (ev_back (ns := ns.set j (vE q n e)) rfl (Nat.le_of_ble_eq_true rfl) (by rw [List.length_set]; exact hl)) ea_nil)) (len_le rfl)))
    by_cases h7 : (k : Int) = 7
    · exact eb_andFr (eb_T (ei_eq (ev_var rfl) ev_int) (decide_eq_true h7)) (eb_F (ei_ne (ev_var rfl) (ev_var rfl)) (by rw [decide_eq_true (by omega)]; rfl))
    · exact eb_andFl (eb_F (ei_eq (ev_var rfl) ev_int) (decide_eq_false h7))
end Ck

/-! The plain law: exponents, no program in sight. -/
namespace Ck
open PySem PySem.Spec PyProof.Rows L2

theorem ph_G {q x y : Int} (h : Ord q) (e : G q x = G q y) : ph q x = ph q y := (ph_iff h).mpr (G_inj h e)
theorem ph_eq {q x y : Int} (h : Ord q) (e : ph q x = ph q y) (hx : Rg q x) (hy : Rg q y) : x = y := same_of ((ph_iff h).mp e) hx.1 hy.1 hx.2 hy.2
theorem ph_nz {q x : Int} (h : Ord q) (hx : x % q ≠ 0) : ph q x ≠ 0 := fun e => hx ((ph_ne h).mp e)
theorem ph_can {q x y z : Int} (h : Ord q) (hx : x % q ≠ 0) (e : ph q x * ph q y = ph q x * ph q z) : ph q y = ph q z := by
  have := ph_inv h hx
  grind
theorem ph_cuo {q x y : Int} (h : Ord q) (hy : y % q ≠ 0) : ph q y * ph q (quo q x y) = ph q x := by
  have := ph_inv h hy
  rw [ph_quo h]
  grind
theorem dot4 (q a1 a2 a3 a4 b1 b2 b3 b4 : Int) : ph q (dot [a1, a2, a3, a4] [b1, b2, b3, b4]) = ph q a1 * ph q b1 + ph q a2 * ph q b2 + ph q a3 * ph q b3 + ph q a4 * ph q b4 := by
  unfold dot dot dot dot dot
  simp only [ph_add, ph_mul, ph_zero]
  grind
theorem dot3 (q a1 a2 a3 b1 b2 b3 : Int) : ph q (dot [a1, a2, a3] [b1, b2, b3]) = ph q a1 * ph q b1 + ph q a2 * ph q b2 + ph q a3 * ph q b3 := by
  unfold dot dot dot dot
  simp only [ph_add, ph_mul, ph_zero]
  grind
theorem dot2 (q a1 a2 b1 b2 : Int) : ph q (dot [a1, a2] [b1, b2]) = ph q a1 * ph q b1 + ph q a2 * ph q b2 := by
  unfold dot dot dot
  simp only [ph_add, ph_mul, ph_zero]
  grind
theorem nTk_of {q : Int} {t t' : Tk} (h1 : G q t.A = G q t'.A) (h2 : G q t.B = G q t'.B) (h3 : G q t.z = G q t'.z) (h4 : G q t.a = G q t'.a) (h5 : G q t.b = G q t'.b) : nTk q t = nTk q t' := by
  unfold nTk
  rw [h1, h2, h3, h4, h5]
theorem c1_of {q : Int} {t t' : Tk} (h : nTk q t = nTk q t') : c1 q t = c1 q t' := by unfold c1; rw [h]
structure TkEq (q : Int) (t t' : Tk) : Prop where
  n : nTk q t = nTk q t'
  r : t.r = t'.r
theorem TkEq.A {q : Int} {t t' : Tk} (h : TkEq q t t') : G q t.A = G q t'.A := by
  have := h.n
  unfold nTk at this
  injection this
theorem TkEq.d {q : Int} {t t' : Tk} (h : TkEq q t t') : dTk q t = dTk q t' := by
  have e := h.n
  unfold nTk at e
  injection e with e1 e
  injection e with e2 e
  injection e with e3 e
  injection e with e4 e
  injection e with e5 e
  unfold dTk
  rw [e1, e2, e3, e4, e5, h.r]
theorem TkEq.of {q : Int} {t t' : Tk} (h : dTk q t = dTk q t') : TkEq q t t' := by
  unfold dTk at h
  injection h with h
  injection h with h1 h
  injection h with h2 h
  injection h with h3 h
  injection h with h4 h
  injection h with h5 h
  injection h with h6 h
  injection h1 with h1
  injection h2 with h2
  injection h3 with h3
  injection h4 with h4
  injection h5 with h5
  injection h6 with h6
  exact ⟨nTk_of h1 h2 h3 h4 h5, h6⟩
theorem dSd_inj {s s' : Sd} (h : dSd s = dSd s') : s = s' := by
  obtain ⟨d, r0, r1, r2, r3⟩ := s
  obtain ⟨d', r0', r1', r2', r3'⟩ := s'
  unfold dSd at h
  injection h with h
  injection h with h1 h
  injection h with h2 h
  injection h1 with h1
  injection h2 with h2
  injection h2 with h2 h3
  injection h3 with h3 h4
  injection h4 with h4 h5
  injection h5 with h5 h6
  injection h2 with h2
  injection h3 with h3
  injection h4 with h4
  injection h5 with h5
  simp only at h1 h2 h3 h4 h5
  rw [h1, h2, h3, h4, h5]

/-! ### sessions -/
section
variable {q x : Int} {a : Nat → Int} {S : Ses}
theorem SsOk.f1 (h : Ord q) (hx : x % q ≠ 0) (s : SsOk q a x S) : S.f.1 % q ≠ 0 := by
  obtain ⟨w, e, _⟩ := s.w
  rw [e]
  exact mul_ne h s.m hx
theorem SsOk.c0 (h : Ord q) (s : SsOk q a x S) : S.c % q ≠ 0 := by
  rw [s.c]
  have h1 : rqs q a S.p S.f S.b ≠ 0 := quo_ne h (c1_ne h _) (rg_ne s.b.u s.b.u0)
  have h2 := rqs_rg (a := a) (p := S.p) (f := S.f) (b := S.b) h
  rw [Int.emod_eq_of_lt h2.1 h2.2]
  exact h1
theorem SsOk.cr (h : Ord q) (s : SsOk q a x S) : Rg q S.c := by rw [s.c]; exact rqs_rg h
theorem SsOk.rr (h : Ord q) (s : SsOk q a x S) : Rg q S.r := by
  obtain ⟨w, _, e⟩ := s.w
  rw [e]
  exact rg_mod h _
theorem SsOk.uc (h : Ord q) (s : SsOk q a x S) : ph q S.b.u * ph q S.c = ph q (c1 q S.t) := by
  rw [s.t, s.c]
  have := ph_cuo (x := c1 q (hid a S.p S.f S.b 0)) h (rg_ne s.b.u s.b.u0)
  exact this
theorem SsOk.grd (h : Ord q) (s : SsOk q a x S) : grd q a S.p S.f (a 0 * x) S.r S.c = true := by
  obtain ⟨w, e1, e2⟩ := s.w
  rw [e1, e2]
  exact grd_ok h
/-- both checks tell the answer -/
theorem grd_r {p f : Tri} {w c r x1 : Int} (h : Ord q) (ha : a 0 % q ≠ 0) (hf : f.2.1 = a 0 * w) (hg : grd q a p f (a 0 * x1) r c = true) : ph q r = ph q w + ph q x1 * ph q c := by
  obtain ⟨g1, _⟩ := Bool.and_eq_true_iff.mp hg
  have e := ph_G h (of_decide_eq_true g1)
  rw [hf] at e
  simp only [ph_mul, ph_add] at e
  have := ph_inv h ha
  grind
theorem SsOk.r_ph (h : Ord q) (s : SsOk q a x S) : ∃ w, S.f = ofr a x S.p w ∧ ph q S.r = ph q w + ph q S.c * ph q x := by
  obtain ⟨w, e1, e2⟩ := s.w
  exact ⟨w, e1, by rw [e2]; simp only [ph_mod h, ph_add, ph_mul]⟩
/-- a wrong challenge or answer fails -/
theorem SsOk.bad (h : Ord q) (ha : a 0 % q ≠ 0) (hx : x % q ≠ 0) (s : SsOk q a x S) {c r : Int} (hc : Rg q c) (hr : Rg q r) (hn : (c ≠ S.c ∧ r = S.r) ∨ (c = S.c ∧ r ≠ S.r)) : Ck.grd q a S.p S.f (a 0 * x) r c = false := by
  cases e : Ck.grd q a S.p S.f (a 0 * x) r c with
  | false => rfl
  | true =>
    exfalso
    obtain ⟨w, e1, e2⟩ := s.r_ph h
    have e3 := grd_r h ha (show S.f.2.1 = a 0 * w by rw [e1]; rfl) e
    rcases hn with ⟨n, rfl⟩ | ⟨rfl, n⟩
    · refine n (ph_eq h (ph_can h hx ?_) hc (s.cr h))
      grind
    · refine n (ph_eq h ?_ hr (s.rr h))
      grind
/-- another secret fails -/
theorem SsOk.other (h : Ord q) (ha : a 0 % q ≠ 0) {x1 : Int} (hx1 : Rg q x1) (hx : Rg q x) (hne : x ≠ x1) (s : SsOk q a x S) : Ck.grd q a S.p S.f (a 0 * x1) S.r S.c = false := by
  cases e : Ck.grd q a S.p S.f (a 0 * x1) S.r S.c with
  | false => rfl
  | true =>
    exfalso
    obtain ⟨w, e1, e2⟩ := s.r_ph h
    have e3 := grd_r h ha (show S.f.2.1 = a 0 * w by rw [e1]; rfl) e
    refine hne (ph_eq h (ph_can h (s.c0 h) ?_) hx hx1)
    grind
theorem SsOk.tk (h : Ord q) (s : SsOk q a x S) : TkOk q a (a 0 * x) S.t where
  A := by
    rw [s.t]
    exact mul_ne h s.m (rg_ne s.b.s s.b.s0)
  r := by
    rw [s.t]
    exact rg_mod h _
  g1 := by
    obtain ⟨w, e1, e2⟩ := s.r_ph h
    have e3 := s.uc h
    apply G_ph h
    rw [ph_add, ph_mul, ph_mul, ← e3, s.t]
    show ph q (a 0) * ph q ((S.b.u * S.r + S.b.v) % q) = ph q (S.f.2.1 * S.b.u + a 0 * S.b.v) + ph q (a 0 * x) * (ph q S.b.u * ph q S.c)
    rw [show S.f.2.1 = a 0 * w by rw [e1]; rfl, ph_mod h]
    simp only [ph_add, ph_mul]
    rw [e2]
    grind
  g2 := by
    obtain ⟨w, e1, e2⟩ := s.r_ph h
    have e3 := s.uc h
    apply G_ph h
    rw [ph_add, ph_mul, ph_mul, ← e3, s.t]
    show ph q (Ck.mk a S.p * S.b.s) * ph q ((S.b.u * S.r + S.b.v) % q) = ph q (S.f.2.2 * (S.b.s * S.b.u) + Ck.mk a S.p * S.b.s * S.b.v) + ph q (S.f.1 * S.b.s) * (ph q S.b.u * ph q S.c)
    rw [show S.f.2.2 = Ck.mk a S.p * w by rw [e1]; rfl, show S.f.1 = Ck.mk a S.p * x by rw [e1]; rfl, ph_mod h]
    simp only [ph_add, ph_mul]
    rw [e2]
    grind
end
/-- the spend answers -/
theorem spd_eq {q d r : Int} {a : Nat → Int} {p f : Tri} {b : Bl} (h : Ord q) : G q (dot [a 1, a 2, a 3, a 4] [(spd q p b d).r0, (spd q p b d).r1, (spd q p b d).r2, (spd q p b d).r3]) = G q ((tkt q a p f b r).A * (spd q p b d).d + (tkt q a p f b r).B) := by
  apply G_ph h
  rw [dot4]
  show ph q (a 1) * ph q ((b.x0 + d * b.s * 1) % q) + ph q (a 2) * ph q ((b.x1 + d * b.s * p.1) % q) + ph q (a 3) * ph q ((b.x2 + d * b.s * p.2.1) % q) + ph q (a 4) * ph q ((b.x3 + d * b.s * p.2.2) % q) = ph q (mk a p * b.s * d + dot [a 1, a 2, a 3, a 4] [b.x0, b.x1, b.x2, b.x3])
  rw [ph_add, dot4, ph_mul, ph_mul, mk_ph]
  simp only [ph_mod h, ph_add, ph_mul, ph_one]
  grind
/-- the values of the own claim -/
theorem val_eq {q r : Int} {a : Nat → Int} {p f : Tri} {b : Bl} (h : Ord q) : G q (dot [bsP a p.2, a 2] [b.s, b.s * p.1 % q]) = G q (tkt q a p f b r).A := by
  apply G_ph h
  rw [dot2]
  show ph q (dot [a 1, a 3, a 4] [1, p.2.1, p.2.2]) * ph q b.s + ph q (a 2) * ph q (b.s * p.1 % q) = ph q (mk a p * b.s)
  rw [dot3, ph_mul, mk_ph]
  simp only [ph_mod h, ph_mul, ph_one]
  grind
end Ck

/-! The plain law: blindness, and only one blinding. -/
namespace Ck
open PySem PySem.Spec PyProof.Rows L2

/-! ### blindness -/
section
variable {q x : Int} {a : Nat → Int} {S : Ses} {t : Tk} {s : Sd}
/-- with the right secret every session leads to every ticket and spend -/
theorem SsOk.blind (h : Ord q) (ha : a 0 % q ≠ 0) (o : SsOk q a x S) (ht : TkOk q a (a 0 * x) t) (hz : ph q t.z = ph q t.A * ph q x) (hs : SdOk q s) (he : G q (dot [a 1, a 2, a 3, a 4] [s.r0, s.r1, s.r2, s.r3]) = G q (t.A * s.d + t.B)) :
    rqs q a S.p S.f (xBl q a S.p S.c S.r t s) = S.c ∧ TkEq q (tkt q a S.p S.f (xBl q a S.p S.c S.r t s) S.r) t ∧ spd q S.p (xBl q a S.p S.c S.r t s) s.d = s := by
  obtain ⟨w, e1, e2⟩ := o.r_ph h
  have hc := o.c0 h
  have es : ph q (Ck.mk a S.p) * ph q (quo q t.A (Ck.mk a S.p)) = ph q t.A := ph_cuo h o.m
  have eu : ph q S.c * ph q (quo q (c1 q t) S.c) = ph q (c1 q t) := ph_cuo h hc
  have g1 := ph_G h ht.g1
  have g2 := ph_G h ht.g2
  simp only [ph_mul, ph_add] at g1 g2
  have gs := ph_G h he
  rw [dot4, ph_add, ph_mul] at gs
  have hm := mk_ph q a S.p
  have ef1 : S.f.1 = Ck.mk a S.p * x := by rw [e1]; rfl
  have ef2 : S.f.2.1 = a 0 * w := by rw [e1]; rfl
  have ef3 : S.f.2.2 = Ck.mk a S.p * w := by rw [e1]; rfl
  have hn : ∀ r', nTk q (hid a S.p S.f (xBl q a S.p S.c S.r t s) r') = nTk q t := fun r' => by
    refine nTk_of (G_ph h ?_) (G_ph h ?_) (G_ph h ?_) (G_ph h ?_) (G_ph h ?_)
    · show ph q (Ck.mk a S.p * quo q t.A (Ck.mk a S.p)) = _
      rw [ph_mul, es]
    · show ph q (dot [a 1, a 2, a 3, a 4] [(s.r0 - s.d * quo q t.A (Ck.mk a S.p) * 1) % q, (s.r1 - s.d * quo q t.A (Ck.mk a S.p) * S.p.1) % q, (s.r2 - s.d * quo q t.A (Ck.mk a S.p) * S.p.2.1) % q, (s.r3 - s.d * quo q t.A (Ck.mk a S.p) * S.p.2.2) % q]) = _
      rw [dot4]
      simp only [ph_mod h, ph_sub, ph_mul, ph_one]
      grind
    · show ph q (S.f.1 * quo q t.A (Ck.mk a S.p)) = _
      rw [ef1]
      simp only [ph_mul]
      rw [hz]
      grind
    · show ph q (S.f.2.1 * quo q (c1 q t) S.c + a 0 * ((t.r - quo q (c1 q t) S.c * S.r) % q)) = _
      rw [ef2]
      simp only [ph_mod h, ph_sub, ph_add, ph_mul]
      rw [e2]
      grind
    · show ph q (S.f.2.2 * (quo q t.A (Ck.mk a S.p) * quo q (c1 q t) S.c) + Ck.mk a S.p * quo q t.A (Ck.mk a S.p) * ((t.r - quo q (c1 q t) S.c * S.r) % q)) = _
      rw [ef3]
      simp only [ph_mod h, ph_sub, ph_add, ph_mul]
      rw [e2]
      grind
  have hr : (quo q (c1 q t) S.c * S.r + (t.r - quo q (c1 q t) S.c * S.r) % q) % q = t.r := ph_eq h (by simp only [ph_mod h, ph_add, ph_sub, ph_mul]; grind) (rg_mod h _) ht.r
  have hrs : rqs q a S.p S.f (xBl q a S.p S.c S.r t s) = S.c := by
    show quo q (c1 q (hid a S.p S.f (xBl q a S.p S.c S.r t s) 0)) (quo q (c1 q t) S.c) = S.c
    rw [c1_of (hn 0)]
    have hu : quo q (c1 q t) S.c % q ≠ 0 := rg_ne ⟨quo_nn h, quo_lt h⟩ (quo_ne h (c1_ne h t) hc)
    refine (quo_only h hu (o.cr h).1 (o.cr h).2 ?_).symm
    rw [← ph_iff h, ph_mul]
    grind
  refine ⟨hrs, ⟨hn _, hr⟩, ?_⟩
  obtain ⟨d, r0, r1, r2, r3⟩ := s
  obtain ⟨k1, k2, k3, k4, k5⟩ := hs
  show Sd.mk d (((r0 - d * quo q t.A (Ck.mk a S.p) * 1) % q + d * quo q t.A (Ck.mk a S.p) * 1) % q) (((r1 - d * quo q t.A (Ck.mk a S.p) * S.p.1) % q + d * quo q t.A (Ck.mk a S.p) * S.p.1) % q) (((r2 - d * quo q t.A (Ck.mk a S.p) * S.p.2.1) % q + d * quo q t.A (Ck.mk a S.p) * S.p.2.1) % q) (((r3 - d * quo q t.A (Ck.mk a S.p) * S.p.2.2) % q + d * quo q t.A (Ck.mk a S.p) * S.p.2.2) % q) = _
  have back : ∀ y z : Int, Rg q y → ((y - z) % q + z) % q = y := fun y z hy => ph_eq h (by simp only [ph_mod h, ph_add, ph_sub]; grind) (rg_mod h _) hy
  rw [back _ _ k2, back _ _ k3, back _ _ k4, back _ _ k5]
theorem SsOk.z (h : Ord q) (o : SsOk q a x S) : ph q S.t.z = ph q S.t.A * ph q x := by
  obtain ⟨w, e1, _⟩ := o.w
  rw [o.t]
  show ph q (S.f.1 * S.b.s) = ph q (Ck.mk a S.p * S.b.s) * ph q x
  rw [show S.f.1 = Ck.mk a S.p * x by rw [e1]; rfl]
  simp only [ph_mul]
  grind
end
/-! ### only one blinding -/
theorem tk_only {q c r d : Int} {a : Nat → Int} {p f : Tri} {b b' : Bl} (h : Ord q) (hm : mk a p % q ≠ 0) (hb : BlOk q b) (hb' : BlOk q b') (hc : rqs q a p f b = c) (hc' : rqs q a p f b' = c)
    (ht : TkEq q (tkt q a p f b r) (tkt q a p f b' r)) (hs : spd q p b d = spd q p b' d) : b = b' := by
  have es : b.s = b'.s := by
    have e := ph_G h ht.A
    have e : ph q (mk a p * b.s) = ph q (mk a p * b'.s) := e
    rw [ph_mul, ph_mul] at e
    exact ph_eq h (ph_can h hm e) hb.s hb'.s
  have ec : c1 q (hid a p f b 0) = c1 q (hid a p f b' 0) := c1_of (t := tkt q a p f b r) (t' := tkt q a p f b' r) ht.n
  have hu := rg_ne hb.u hb.u0
  have hu' := rg_ne hb'.u hb'.u0
  have k1 : ph q b.u * ph q c = ph q (c1 q (hid a p f b 0)) := by rw [← hc]; exact ph_cuo h hu
  have k2 : ph q b'.u * ph q c = ph q (c1 q (hid a p f b' 0)) := by rw [← hc']; exact ph_cuo h hu'
  have hc0 : c % q ≠ 0 := by
    rw [← hc]
    exact rg_ne (rqs_rg h) (quo_ne h (c1_ne h _) hu)
  have eu : b.u = b'.u := by
    refine ph_eq h (ph_can h hc0 ?_) hb.u hb'.u
    rw [← ec] at k2
    grind
  have ev : b.v = b'.v := by
    have e : (b.u * r + b.v) % q = (b'.u * r + b'.v) % q := ht.r
    rw [← ph_iff h, eu] at e
    simp only [ph_add, ph_mul] at e
    exact ph_eq h (by grind) hb.v hb'.v
  have xs : ∀ y y' z : Int, Rg q y → Rg q y' → (y + z) % q = (y' + z) % q → y = y' := fun y y' z hy hy' e => by
    rw [← ph_iff h, ph_add, ph_add] at e
    exact ph_eq h (by grind) hy hy'
  unfold spd at hs
  rw [es] at hs
  injection hs with _ h0 h1 h2 h3
  have f0 := xs _ _ _ hb.x0 hb'.x0 h0
  have f1 := xs _ _ _ hb.x1 hb'.x1 h1
  have f2 := xs _ _ _ hb.x2 hb'.x2 h2
  have f3 := xs _ _ _ hb.x3 hb'.x3 h3
  obtain ⟨s, u, v, x0, x1, x2, x3⟩ := b
  obtain ⟨s', u', v', x0', x1', x2', x3'⟩ := b'
  simp only at es eu ev f0 f1 f2 f3
  rw [es, eu, ev, f0, f1, f2, f3]
/-! ### papers -/
theorem tr_congr {q A A' g b b' : Int} {p p' : Tri} (h : Ord q) (e : ph q (dot [b, g] [p.2.1, p.2.2] + A * p.1 * -1) = ph q (dot [b', g] [p'.2.1, p'.2.2] + A' * p'.1 * -1)) : tr q A g b p = tr q A' g b' p' := G_ph h e
theorem tr_A {q A A' g b : Int} {p : Tri} (h : Ord q) (e : G q A = G q A') : tr q A g b p = tr q A' g b p := tr_congr h (by have := ph_G h e; simp only [ph_add, ph_mul]; rw [this])
theorem callV_A {q A A' g : Int} {text : Str} {bs : List Int} {ps : List Tri} (h : Ord q) (e : G q A = G q A') : callV q text A g bs ps = callV q text A' g bs ps := by
  have e1 : cn q A g bs = cn q A' g bs := by
    unfold cn
    congr 2
    funext b
    unfold cn1
    rw [e]
  have e2 : trs q A g bs ps = trs q A' g bs ps := by
    unfold trs
    congr 1
    funext b p
    exact tr_A h e
  unfold callV
  rw [e1, e2]
theorem mkP_A {q A A' g x y : Int} {text : Str} {bs : List Int} {i : Nat} {ns : List Tri} {n : Tri} (h : Ord q) (e : G q A = G q A') : mkP q text A g bs i x y ns n = mkP q text A' g bs i x y ns n := by
  unfold mkP mkC
  rw [callV_A h e]
theorem trs_set {q A g b : Int} {bs : List Int} {ps : List Tri} {i : Nat} {p p' : Tri} (hb : bs[i]? = some b) (hp : ps[i]? = some p) (e : tr q A g b p' = tr q A g b p) : trs q A g bs (ps.set i p') = trs q A g bs ps := by
  unfold trs
  apply List.ext_getElem?
  intro j
  rw [List.getElem?_zipWith, List.getElem?_zipWith]
  by_cases hij : i = j
  · subst hij
    rw [List.getElem?_set_self (List.getElem?_eq_some_iff.mp hp).1, hb, hp]
    show some (tr q A g b p') = some (tr q A g b p)
    rw [e]
  · rw [List.getElem?_set_ne hij]
theorem callV_set {q A g b : Int} {text : Str} {bs : List Int} {ps : List Tri} {i : Nat} {p p' : Tri} (hb : bs[i]? = some b) (hp : ps[i]? = some p) (e : tr q A g b p' = tr q A g b p) : callV q text A g bs (ps.set i p') = callV q text A g bs ps := by
  unfold callV
  rw [trs_set hb hp e]
theorem soL_set {k : Int} {p' : Tri} : ∀ (ps : List Tri) (n i : Nat), (n + i : Nat) = k → soL k n (ps.set i p') = soL k n ps
  | [], _, _, _ => rfl
  | a :: ps, n, 0, e => by
    show soL k n (p' :: ps) = soL k n (a :: ps)
    unfold soL
    rw [if_pos (by omega), if_pos (by omega)]
  | a :: ps, n, i + 1, e => by
    have ih := soL_set (k := k) (p' := p') ps (n + 1) i (by omega)
    show soL k n (a :: ps.set i p') = soL k n (a :: ps)
    unfold soL
    rw [ih]
theorem soth_set {ps : List Tri} {i : Nat} {p' : Tri} : soth (i : Int) (ps.set i p') = soth (i : Int) ps := by
  unfold soth
  rw [soL_set ps 0 i (by omega)]
theorem soL_sum {p : Tri} : ∀ (ps : List Tri) (n i : Nat), ps[i]? = some p → (soL (-1) n ps).sum = (soL ((n + i : Nat) : Int) n ps).sum + p.1
  | [], _, i, h => by simp at h
  | a :: ps, n, 0, h => by
    simp at h
    subst h
    have e : ∀ (l : List Tri) (m k : Nat), k < m → soL (k : Int) m l = soL (-1) m l := by
      intro l
      induction l with
      | nil => intro m k _; rfl
      | cons z l ih =>
        intro m k hk
        unfold soL
        rw [if_neg (by omega), if_neg (by omega), ih (m + 1) k (by omega)]
    unfold soL
    rw [if_neg (by omega), if_pos (by omega), List.sum_cons, e ps (n + 1) (n + 0) (by omega)]
    omega
  | a :: ps, n, i + 1, h => by
    have ih := soL_sum ps (n + 1) i (by simpa using h)
    unfold soL
    rw [if_neg (by omega), if_neg (by omega), List.sum_cons, List.sum_cons, ih, show n + 1 + i = n + (i + 1) by omega]
    omega
theorem soth_all {ps : List Tri} {i : Nat} {p : Tri} (h : ps[i]? = some p) : soth (-1) ps = soth (i : Int) ps + p.1 := by
  have := soL_sum ps 0 i h
  rw [Nat.zero_add] at this
  exact this
/-- a made paper passes -/
theorem mkP_ok {q A g x y b : Int} {text : Str} {bs : List Int} {i : Nat} {ns : List Tri} {n : Tri} (h : Ord q) (hb : bs[i]? = some b) (hn : ns[i]? = some n) (hn0 : n.1 = 0) (hr : ∀ z ∈ ns, Rg3 q z) (he : G q (dot [b, g] [x, y]) = G q A) :
    (mkP q text A g bs i x y ns n).length = ns.length ∧ (∀ z ∈ mkP q text A g bs i x y ns n, Rg3 q z) ∧ callV q text A g bs (mkP q text A g bs i x y ns n) = callV q text A g bs ns ∧ (soth (-1) (mkP q text A g bs i x y ns n) - callV q text A g bs (mkP q text A g bs i x y ns n)) % q = 0 := by
  have hi := (List.getElem?_eq_some_iff.mp hn).1
  have eC : callV q text A g bs (mkP q text A g bs i x y ns n) = callV q text A g bs ns := by
    unfold mkP
    refine callV_set hb hn (tr_congr h ?_)
    have e := ph_G h he
    rw [dot2] at e
    rw [ph_add, ph_add, dot2, dot2]
    obtain ⟨n0, n1, n2⟩ := n
    have hn0 : n0 = 0 := hn0
    subst hn0
    simp only [ph_mod h, ph_add, ph_mul, ph_zero, ph_neg, ph_one]
    grind
  refine ⟨by unfold mkP; rw [List.length_set], fun z hz => ?_, eC, ?_⟩
  · unfold mkP at hz
    rcases List.mem_or_eq_of_mem_set hz with hz | rfl
    · exact hr z hz
    · exact ⟨rg_mod h _, rg_mod h _, rg_mod h _⟩
  · rw [eC]
    have e1 : (mkP q text A g bs i x y ns n)[i]? = some (mkC q text A g bs i ns, (n.2.1 + mkC q text A g bs i ns * x) % q, (n.2.2 + mkC q text A g bs i ns * y) % q) := by
      unfold mkP
      exact List.getElem?_set_self hi
    rw [soth_all e1]
    have e2 : soth (i : Int) (mkP q text A g bs i x y ns n) = soth (i : Int) ns := by unfold mkP; exact soth_set
    rw [e2]
    show (_ + (callV q text A g bs ns - soth (i : Int) ns) % q - _) % q = 0
    rw [← ph_ne h]
    simp only [ph_mod h, ph_add, ph_sub]
    grind
/-- explained and made again -/
theorem mk_ex {q A g x y b : Int} {text : Str} {bs : List Int} {i : Nat} {ps : List Tri} {p : Tri} (h : Ord q) (hb : bs[i]? = some b) (hp : ps[i]? = some p) (hr : ∀ z ∈ ps, Rg3 q z) (he : G q (dot [b, g] [x, y]) = G q A) (hs : (soth (-1) ps - callV q text A g bs ps) % q = 0) :
    mkP q text A g bs i x y (exP q i x y ps p) (0, (p.2.1 - p.1 * x) % q, (p.2.2 - p.1 * y) % q) = ps := by
  have hi := (List.getElem?_eq_some_iff.mp hp).1
  obtain ⟨c, p1, p2⟩ := p
  obtain ⟨k0, k1, k2⟩ := hr _ (List.mem_of_getElem? hp)
  have eC : callV q text A g bs (exP q i x y ps (c, p1, p2)) = callV q text A g bs ps := by
    unfold exP
    refine callV_set hb hp (tr_congr h ?_)
    have e := ph_G h he
    rw [dot2] at e
    rw [ph_add, ph_add, dot2, dot2]
    simp only [ph_mod h, ph_add, ph_sub, ph_mul, ph_zero, ph_neg, ph_one]
    grind
  have eS : soth (i : Int) (exP q i x y ps (c, p1, p2)) = soth (i : Int) ps := by unfold exP; exact soth_set
  have eK : mkC q text A g bs i (exP q i x y ps (c, p1, p2)) = c := by
    refine ph_eq h ?_ (rg_mod h _) k0
    unfold mkC
    rw [eC, eS]
    rw [← ph_ne h, soth_all hp] at hs
    simp only [ph_mod h, ph_add, ph_sub] at hs ⊢
    grind
  unfold mkP
  rw [eK]
  show ((exP q i x y ps (c, p1, p2)).set i (c, ((p1 - c * x) % q + c * x) % q, ((p2 - c * y) % q + c * y) % q)) = ps
  have back : ∀ y z : Int, Rg q y → ((y - z) % q + z) % q = y := fun y z hy => ph_eq h (by simp only [ph_mod h, ph_add, ph_sub]; grind) (rg_mod h _) hy
  rw [back _ _ k1, back _ _ k2]
  unfold exP
  rw [List.set_set]
  apply List.ext_getElem?
  intro j
  by_cases hij : i = j
  · subst hij
    rw [List.getElem?_set_self hi, hp]
  · rw [List.getElem?_set_ne hij]
/-- only one noise -/
theorem mkP_only {q A g x y : Int} {text : Str} {bs : List Int} {i : Nat} {ns ns' : List Tri} {n n' : Tri} (h : Ord q) (hn : ns[i]? = some n) (hn' : ns'[i]? = some n') (hn0 : n.1 = 0) (hn0' : n'.1 = 0) (hr : ∀ z ∈ ns, Rg3 q z) (hr' : ∀ z ∈ ns', Rg3 q z)
    (e : mkP q text A g bs i x y ns n = mkP q text A g bs i x y ns' n') : ns = ns' := by
  have hi := (List.getElem?_eq_some_iff.mp hn).1
  have hi' := (List.getElem?_eq_some_iff.mp hn').1
  obtain ⟨_, k1, k2⟩ := hr _ (List.mem_of_getElem? hn)
  obtain ⟨_, k1', k2'⟩ := hr' _ (List.mem_of_getElem? hn')
  apply List.ext_getElem?
  intro j
  by_cases hij : i = j
  · subst hij
    have e1 := congrArg (fun l => l[i]?) e
    simp only [mkP] at e1
    rw [List.getElem?_set_self hi, List.getElem?_set_self hi'] at e1
    injection e1 with e1
    injection e1 with e2 e1
    injection e1 with e3 e4
    rw [hn, hn']
    rw [e2] at e3 e4
    have can : ∀ y y' z : Int, Rg q y → Rg q y' → (y + z) % q = (y' + z) % q → y = y' := fun y y' z hy hy' e => by
      rw [← ph_iff h, ph_add, ph_add] at e
      exact ph_eq h (by grind) hy hy'
    have f1 := can _ _ _ k1 k1' e3
    have f2 := can _ _ _ k2 k2' e4
    obtain ⟨a0, a1, a2⟩ := n
    obtain ⟨b0, b1, b2⟩ := n'
    simp only at hn0 hn0' f1 f2
    rw [hn0, hn0', f1, f2]
  · have e1 := congrArg (fun l => l[j]?) e
    simp only [mkP] at e1
    rw [List.getElem?_set_ne hij, List.getElem?_set_ne hij] at e1
    exact e1
end Ck

/-! The law's scene: what each call of it hands back. -/
namespace Ck
open PySem PySem.Spec PyProof.Rows L2

structure Scn (q : Int) (a : Nat → Int) (x : Int) (g : Str) (m : Int) (ps : List Pr) (S : Ses) (i : Nat) (ns : List Tri) (n : Tri) : Prop where
  hq : Ord q
  a0 : a 0 % q ≠ 0
  x1 : 1 ≤ x
  x2 : x < q
  st : StOk g m ps
  ss : SsOk q a x S
  hi : ps[i]? = some S.p.2
  nl : ns.length = ps.length
  nr : ∀ z ∈ ns, Rg3 q z
  ni : ns[i]? = some n
  n0 : n.1 = 0
section
variable {q : Int} {a : Nat → Int} {x : Int} {g : Str} {m : Int} {ps : List Pr} {S : Ses} {i : Nat} {ns : List Tri} {n : Tri}
abbrev spS (q : Int) (g : Str) (m : Int) (ps : List Pr) (S : Ses) : Sd := spd q S.p S.b (stc q g m ps)
abbrev wsS (q : Int) (a : Nat → Int) (g : Str) (m : Int) (ps : List Pr) (S : Ses) (i : Nat) (ns : List Tri) (n : Tri) : List Tri := shP q a g m ps S.p S.t S.b i ns n
abbrev shS (q : Int) (a : Nat → Int) (g : Str) (m : Int) (ps : List Pr) (S : Ses) (i : Nat) (ns : List Tri) (n : Tri) : PyData := dSho q S.t (spS q g m ps S) (wsS q a g m ps S i ns n)
theorem Scn.xq (c : Scn q a x g m ps S i ns n) : x % q ≠ 0 := sm_ne c.x1 c.x2
theorem Scn.val (c : Scn q a x g m ps S i ns n) : G q (dot [bsP a S.p.2, a 2] [S.b.s, S.b.s * S.p.1 % q]) = G q S.t.A := by
  rw [c.ss.t]
  exact val_eq c.hq
theorem Scn.sh (c : Scn q a x g m ps S i ns n) : ShOk q a (a 0 * x) g m ps S.t (spS q g m ps S) (wsS q a g m ps S i ns n) := by
  obtain ⟨h1, h2, h3, h4⟩ := mkP_ok (text := ptx q g m ps S.t (spS q g m ps S)) c.hq (get_bsL (a := a) c.hi) c.ni c.n0 c.nr c.val
  refine ⟨c.st, c.ss.tk c.hq, spd_ok c.hq (stc_rg c.hq), ?_, rfl, h1.trans c.nl, h2, h4⟩
  rw [c.ss.t]
  exact spd_eq c.hq
theorem Scn.made (c : Scn q a x g m ps S i ns n) : R_make_showing [dSet q a, dPn S.p, dTk q S.t, dBl S.b, dCtx g m, dPs ps, dPa ns] (.ret (shS q a g m ps S i ns n)) :=
  .mk c.hq c.st c.ss.p (c.ss.tk c.hq).r c.ss.b c.hi c.nl c.nr c.ni c.n0 c.val
/-- a record of which the checks fail, or of the challenge 0 -/
theorem Scn.exN (c : Scn q a x g m ps S i ns n) {O : Ses} {x' : Int} (o : SsOk q a x' O) (hx' : x' % q ≠ 0) (hin : O.p.2 ∈ ps) {c' r' : Int} (hc : Rg q c') (hr : Rg q r') (hb : c' % q = 0 ∨ grd q a O.p O.f (a 0 * x) r' c' = false) :
    R_explain_showing [dSet q a, .int (G q (a 0 * x)), dRec q O.p O.f c' r', dCtx g m, dPs ps, shS q a g m ps S i ns n] (.ret .none) :=
  .mkN c.hq c.sh hin (.mkN c.hq o.p o.m (o.f1 c.hq hx') hc hr c.sh.sd c.sh.tk.A hb)
theorem Scn.exO (c : Scn q a x g m ps S i ns n) {O : Ses} (hin : ¬ O.p.2 ∈ ps) {c' r' : Int} :
    R_explain_showing [dSet q a, .int (G q (a 0 * x)), dRec q O.p O.f c' r', dCtx g m, dPs ps, shS q a g m ps S i ns n] (.ret .none) := .mkOut c.hq c.sh hin
/-- the explanation of another record -/
abbrev b2 (q : Int) (a : Nat → Int) (g : Str) (m : Int) (ps : List Pr) (S O : Ses) : Bl := xBl q a O.p O.c O.r S.t (spS q g m ps S)
theorem Scn.bl (c : Scn q a x g m ps S i ns n) {O : Ses} (o : SsOk q a x O) : rqs q a O.p O.f (b2 q a g m ps S O) = O.c ∧ TkEq q (tkt q a O.p O.f (b2 q a g m ps S O) O.r) S.t ∧ spd q O.p (b2 q a g m ps S O) (stc q g m ps) = spS q g m ps S :=
  o.blind c.hq c.a0 c.sh.tk (c.ss.z c.hq) c.sh.sd c.sh.sp
theorem Scn.b2ok (c : Scn q a x g m ps S i ns n) {O : Ses} (o : SsOk q a x O) : BlOk q (b2 q a g m ps S O) := xBl_ok c.hq o.m c.sh.tk.A (o.c0 c.hq)
theorem Scn.val2 (c : Scn q a x g m ps S i ns n) {O : Ses} (o : SsOk q a x O) : G q (dot [bsP a O.p.2, a 2] [(b2 q a g m ps S O).s, (b2 q a g m ps S O).s * O.p.1 % q]) = G q S.t.A :=
  (val_eq (r := O.r) (f := O.f) c.hq).trans (c.bl o).2.1.A
abbrev n2 (q : Int) (a : Nat → Int) (g : Str) (m : Int) (ps : List Pr) (S : Ses) (i : Nat) (ns : List Tri) (n : Tri) (O : Ses) (j : Nat) (w : Tri) : List Tri := exP q j (b2 q a g m ps S O).s ((b2 q a g m ps S O).s * O.p.1 % q) (wsS q a g m ps S i ns n) w
abbrev n2j (q : Int) (a : Nat → Int) (g : Str) (m : Int) (ps : List Pr) (S O : Ses) (w : Tri) : Tri := (0, (w.2.1 - w.1 * (b2 q a g m ps S O).s) % q, (w.2.2 - w.1 * ((b2 q a g m ps S O).s * O.p.1 % q)) % q)
theorem Scn.exY (c : Scn q a x g m ps S i ns n) {O : Ses} (o : SsOk q a x O) {j : Nat} {w : Tri} (hj : ps[j]? = some O.p.2) (hw : (wsS q a g m ps S i ns n)[j]? = some w) :
    R_explain_showing [dSet q a, .int (G q (a 0 * x)), dRec q O.p O.f O.c O.r, dCtx g m, dPs ps, shS q a g m ps S i ns n] (.ret (.tuple [dBl (b2 q a g m ps S O), dPa (n2 q a g m ps S i ns n O j w)])) := by
  obtain ⟨h1, h2, h3⟩ := c.bl o
  exact .mk c.hq c.sh hj (.mk c.hq o.p o.m (o.f1 c.hq c.xq) (o.cr c.hq) (o.c0 c.hq) (o.rr c.hq) c.sh.sd c.sh.tk.A h1 (o.grd c.hq) h2.d (congrArg dSd h3)) (c.b2ok o).s o.p.1 hw (c.val2 o)
theorem Scn.n2ok (c : Scn q a x g m ps S i ns n) {O : Ses} {j : Nat} {w : Tri} (hw : (wsS q a g m ps S i ns n)[j]? = some w) :
    (n2 q a g m ps S i ns n O j w).length = ps.length ∧ (∀ z ∈ n2 q a g m ps S i ns n O j w, Rg3 q z) ∧ (n2 q a g m ps S i ns n O j w)[j]? = some (n2j q a g m ps S O w) := by
  refine ⟨?_, fun z hz => ?_, ?_⟩
  · unfold n2 exP
    rw [List.length_set]
    exact c.sh.len
  · unfold n2 exP at hz
    rcases List.mem_or_eq_of_mem_set hz with hz | rfl
    · exact c.sh.rg z hz
    · exact ⟨⟨Int.le_refl _, c.hq.pos⟩, rg_mod c.hq _, rg_mod c.hq _⟩
  · unfold n2 exP
    exact List.getElem?_set_self (List.getElem?_eq_some_iff.mp hw).1
theorem ptx_of {q m : Int} {g : Str} {ps : List Pr} {t t' : Tk} {s : Sd} (h : TkEq q t t') : ptx q g m ps t s = ptx q g m ps t' s := by
  have e := h.n
  unfold nTk at e
  injection e with e1 e
  injection e with e2 e
  injection e with e3 e
  injection e with e4 e
  injection e with e5 e
  unfold ptx pn
  rw [e1, e2, e3, e4, e5, h.r]
/-- the paper of a replay, by the ticket of the scene -/
theorem Scn.shP2 (c : Scn q a x g m ps S i ns n) {O : Ses} {b : Bl} {j : Nat} {ks : List Tri} {k : Tri} (ht : TkEq q (tkt q a O.p O.f b O.r) S.t) (hs : spd q O.p b (stc q g m ps) = spS q g m ps S) :
    shP q a g m ps O.p (tkt q a O.p O.f b O.r) b j ks k = mkP q (ptx q g m ps S.t (spS q g m ps S)) S.t.A (a 2) (bsL a ps) j b.s (b.s * O.p.1 % q) ks k := by
  unfold shP
  rw [hs, ptx_of ht, mkP_A c.hq ht.A]
theorem Scn.back (c : Scn q a x g m ps S i ns n) {O : Ses} (o : SsOk q a x O) {j : Nat} {w : Tri} (hj : ps[j]? = some O.p.2) (hw : (wsS q a g m ps S i ns n)[j]? = some w) :
    mkP q (ptx q g m ps S.t (spS q g m ps S)) S.t.A (a 2) (bsL a ps) j (b2 q a g m ps S O).s ((b2 q a g m ps S O).s * O.p.1 % q) (n2 q a g m ps S i ns n O j w) (n2j q a g m ps S O w) = wsS q a g m ps S i ns n :=
  mk_ex c.hq (get_bsL hj) hw c.sh.rg (c.val2 o) c.sh.sum
/-- replayed with the explanation -/
theorem Scn.rep (c : Scn q a x g m ps S i ns n) {O : Ses} (o : SsOk q a x O) {j : Nat} {w : Tri} (hj : ps[j]? = some O.p.2) (hw : (wsS q a g m ps S i ns n)[j]? = some w) :
    R__law_replayed [dSet q a, .int (G q (a 0 * x)), dRec q O.p O.f O.c O.r, dCtx g m, dPs ps, dBl (b2 q a g m ps S O), dPa (n2 q a g m ps S i ns n O j w)] (.ret (shS q a g m ps S i ns n)) := by
  obtain ⟨h1, h2, h3⟩ := c.bl o
  obtain ⟨k1, k2, k3⟩ := c.n2ok (O := O) hw
  have r := R__law_replayed.mk (q := q) (h := a 0 * x) (m := m) (c := O.c) (r := O.r) (a := a) (g := g) (ps := ps) (p := O.p) (f := O.f) (b := b2 q a g m ps S O) (i := j) (ns := n2 q a g m ps S i ns n O j w) (n := n2j q a g m ps S O w) c.hq c.st o.p o.m (o.f1 c.hq c.xq) (c.b2ok o) h1 (o.rr c.hq) (o.grd c.hq) hj k1 k2 k3 rfl ((c.val2 o).trans h2.A.symm)
  have e : dSho q (tkt q a O.p O.f (b2 q a g m ps S O) O.r) (spd q O.p (b2 q a g m ps S O) (stc q g m ps)) (shP q a g m ps O.p (tkt q a O.p O.f (b2 q a g m ps S O) O.r) (b2 q a g m ps S O) j (n2 q a g m ps S i ns n O j w) (n2j q a g m ps S O w)) = shS q a g m ps S i ns n := by
    unfold shS dSho
    rw [c.shP2 h2 h3, c.back o hj hw, h3, h2.d]
  rw [e] at r
  exact r
theorem dPr_inj {p p' : Tri} (h : dPr p = dPr p') : p = p' := by
  obtain ⟨x0, x1, x2⟩ := p
  obtain ⟨y0, y1, y2⟩ := p'
  unfold dPr at h
  injection h with h
  injection h with h1 h
  injection h with h2 h
  injection h1 with h1
  injection h2 with h2
  injection h2 with h2 h3
  injection h3 with h3 h4
  injection h2 with h2
  injection h3 with h3
  simp only at h1 h2 h3
  rw [h1, h2, h3]
theorem dPa_inj {l l' : List Tri} (h : dPa l = dPa l') : l = l' := by
  unfold dPa at h
  injection h with h
  have e : ∀ (l l' : List Tri), l.map dPr = l'.map dPr → l = l' := by
    intro l
    induction l with
    | nil =>
      intro l' h
      cases l' with
      | nil => rfl
      | cons => cases h
    | cons y l ih =>
      intro l' h
      cases l' with
      | nil => cases h
      | cons z l' =>
        rw [List.map_cons, List.map_cons] at h
        injection h with h1 h2
        rw [dPr_inj h1, ih l' h2]
  exact e l l' h
theorem pl_dPa {k : Nat} {l : List Tri} : Pl (k + 3) (dPa l) := pl_tup (pl_map fun _ _ => pl_tup (pl_cons pl_int (pl_cons (pl_tup (pl_cons pl_int (pl_cons pl_int pl_nil))) pl_nil)))
theorem pl_dSho {k : Nat} {t : Tk} {s : Sd} {l : List Tri} : Pl (k + 4) (dSho q t s l) := pl_tup (pl_cons pl_dTk (pl_cons pl_dSd (pl_cons pl_dPa pl_nil)))
theorem pl_dBl {k : Nat} {b : Bl} : Pl (k + 2) (dBl b) := pl_tup (pl_cons pl_int (pl_cons pl_int (pl_cons pl_int (pl_cons (pl_tup (pl_cons pl_int (pl_cons pl_int (pl_cons pl_int (pl_cons pl_int pl_nil))))) pl_nil))))
/-- replayed with anything else -/
theorem Scn.vary (c : Scn q a x g m ps S i ns n) {O : Ses} (o : SsOk q a x O) {j : Nat} {w : Tri} (hj : ps[j]? = some O.p.2) (hw : (wsS q a g m ps S i ns n)[j]? = some w) {b : Bl} {ks : List Tri} {k : Tri}
    (hb : BlOk q b) (hl : ks.length = ps.length) (hr : ∀ z ∈ ks, Rg3 q z) (hk : ks[j]? = some k) (hk0 : k.1 = 0) (hne : b ≠ b2 q a g m ps S O ∨ ks ≠ n2 q a g m ps S i ns n O j w) :
    ∃ d, R__law_replayed [dSet q a, .int (G q (a 0 * x)), dRec q O.p O.f O.c O.r, dCtx g m, dPs ps, dBl b, dPa ks] (.ret d) ∧ Pl 6 d ∧ d ≠ shS q a g m ps S i ns n := by
  by_cases hc : rqs q a O.p O.f b = O.c
  · refine ⟨_, .mk c.hq c.st o.p o.m (o.f1 c.hq c.xq) hb hc (o.rr c.hq) (o.grd c.hq) hj hl hr hk hk0 (val_eq c.hq), pl_dSho, fun e => ?_⟩
    obtain ⟨h1, h2, h3⟩ := c.bl o
    unfold shS dSho at e
    injection e with e
    injection e with e1 e
    injection e with e2 e
    injection e with e3 e
    have t1 := TkEq.of e1
    have t2 : TkEq q (tkt q a O.p O.f b O.r) (tkt q a O.p O.f (b2 q a g m ps S O) O.r) := ⟨t1.n.trans h2.n.symm, t1.r.trans h2.r.symm⟩
    have s1 := dSd_inj e2
    have eb : b = b2 q a g m ps S O := tk_only c.hq o.m hb (c.b2ok o) hc h1 t2 (s1.trans h3.symm)
    rcases hne with hne | hne
    · exact hne eb
    · apply hne
      have e4 := dPa_inj e3
      rw [c.shP2 t1 s1, eb, ← c.back o hj hw] at e4
      obtain ⟨k1, k2, k3⟩ := c.n2ok (O := O) hw
      exact mkP_only c.hq hk k3 hk0 rfl hr k2 e4
  · exact ⟨_, .mkO c.hq o.p o.m (o.f1 c.hq c.xq) hb hc, pl_str (by decide +kernel), fun e => by unfold shS dSho at e; cases e⟩
/-- the own record explains the showing as it was made -/
theorem Scn.own (c : Scn q a x g m ps S i ns n) :
    R_explain_showing [dSet q a, .int (G q (a 0 * x)), dRec q S.p S.f S.c S.r, dCtx g m, dPs ps, shS q a g m ps S i ns n] (.ret (.tuple [dBl S.b, dPa ns])) := by
  have hi : i < (wsS q a g m ps S i ns n).length := by
    rw [c.sh.len]
    exact (List.getElem?_eq_some_iff.mp c.hi).1
  have hw : (wsS q a g m ps S i ns n)[i]? = some _ := List.getElem?_eq_getElem hi
  have r := c.exY c.ss c.hi hw
  obtain ⟨h1, h2, h3⟩ := c.bl c.ss
  have eb : b2 q a g m ps S S = S.b := tk_only c.hq c.ss.m (c.b2ok c.ss) c.ss.b h1 c.ss.c.symm (by rw [← c.ss.t]; exact h2) h3
  have en : n2 q a g m ps S i ns n S i (wsS q a g m ps S i ns n)[i] = ns := by
    obtain ⟨k1, k2, k3⟩ := c.n2ok (O := S) hw
    have e := c.back c.ss c.hi hw
    refine mkP_only (q := q) (A := S.t.A) (g := a 2) (x := S.b.s) (y := S.b.s * S.p.1 % q) (text := ptx q g m ps S.t (spS q g m ps S)) (bs := bsL a ps) c.hq k3 c.ni rfl c.n0 k2 c.nr ?_
    rw [eb] at e
    exact e
  rw [en, eb] at r
  exact r
end
end Ck

/-! The law's scene: something else than the explanation; what the row gives. -/
namespace Ck
open PySem PySem.Spec PyProof.Rows L2

theorem inc_ne {q x : Int} (h : Ord q) (hx : Rg q x) : (x + 1) % q ≠ x := fun e => by
  have h1 := h.lo
  obtain ⟨h2, h3⟩ := hx
  by_cases hl : x + 1 < q
  · rw [Int.emod_eq_of_lt (by omega) hl] at e
    omega
  · have e1 : x + 1 = q := by omega
    rw [e1, Int.emod_self] at e
    omega
theorem dec_ne {q x : Int} (h : Ord q) (hx : Rg q x) : (x - 1) % q ≠ x := fun e => by
  have h1 := h.lo
  obtain ⟨h2, h3⟩ := hx
  by_cases hl : 0 < x
  · rw [Int.emod_eq_of_lt (by omega) (by omega)] at e
    omega
  · have e1 : x = 0 := by omega
    subst e1
    have e2 : (0 - 1 : Int) % q = q - 1 := by
      rw [show (0 - 1 : Int) = (q - 1) + q * (-1) by omega, Int.add_mul_emod_self_left, Int.emod_eq_of_lt (by omega) (by omega)]
    omega
theorem inc1_ne {q x : Int} (h : Ord q) (h2 : 1 ≤ x) (h3 : x < q) : 1 + (x - 1 + 1) % (q - 1) ≠ x := fun e => by
  have h1 := h.lo
  have ex : x - 1 + 1 = x := by omega
  rw [ex] at e
  by_cases hl : x < q - 1
  · rw [Int.emod_eq_of_lt (by omega) hl] at e
    omega
  · have e1 : x = q - 1 := by omega
    rw [e1, Int.emod_self] at e
    omega
theorem pos_of {q x : Int} (hx : Rg q x) (h0 : x ≠ 0) : 1 ≤ x := by
  have := hx.1
  omega
theorem in1b {q x : Int} (h : Ord q) : Rg q (1 + x % (q - 1)) ∧ 1 + x % (q - 1) ≠ 0 := by
  have := in1 (x := x) h
  exact ⟨⟨by omega, this.2⟩, by omega⟩
theorem vB_ok {q : Int} {b : Bl} (h : Ord q) (hb : BlOk q b) : ∀ k : Nat, BlOk q (vB q b k) ∧ vB q b k ≠ b
  | 0 => ⟨⟨(in1b h).1, (in1b h).2, hb.u, hb.u0, hb.v, hb.x0, hb.x1, hb.x2, hb.x3⟩, fun e => inc1_ne h (pos_of hb.s hb.s0) hb.s.2 (congrArg Bl.s e)⟩
  | 1 => ⟨⟨hb.s, hb.s0, (in1b h).1, (in1b h).2, hb.v, hb.x0, hb.x1, hb.x2, hb.x3⟩, fun e => inc1_ne h (pos_of hb.u hb.u0) hb.u.2 (congrArg Bl.u e)⟩
  | 2 => by
    have e2 : 0 + (b.v - 0 + 1) % (q - 0) = (b.v + 1) % q := by simp
    refine ⟨⟨hb.s, hb.s0, hb.u, hb.u0, ?_, hb.x0, hb.x1, hb.x2, hb.x3⟩, fun e => ?_⟩
    · show Rg q (0 + (b.v - 0 + 1) % (q - 0))
      rw [e2]
      exact rg_mod h _
    · have := congrArg Bl.v e
      have this : 0 + (b.v - 0 + 1) % (q - 0) = b.v := this
      rw [e2] at this
      exact inc_ne h hb.v this
  | 3 => ⟨⟨hb.s, hb.s0, hb.u, hb.u0, hb.v, rg_mod h _, hb.x1, hb.x2, hb.x3⟩, fun e => inc_ne h hb.x0 (congrArg Bl.x0 e)⟩
  | 4 => ⟨⟨hb.s, hb.s0, hb.u, hb.u0, hb.v, hb.x0, rg_mod h _, hb.x2, hb.x3⟩, fun e => inc_ne h hb.x1 (congrArg Bl.x1 e)⟩
  | 5 => ⟨⟨hb.s, hb.s0, hb.u, hb.u0, hb.v, hb.x0, hb.x1, rg_mod h _, hb.x3⟩, fun e => inc_ne h hb.x2 (congrArg Bl.x2 e)⟩
  | _ + 6 => ⟨⟨hb.s, hb.s0, hb.u, hb.u0, hb.v, hb.x0, hb.x1, hb.x2, rg_mod h _⟩, fun e => inc_ne h hb.x3 (congrArg Bl.x3 e)⟩
theorem vE_ok {q : Int} {n : Tri} (h : Ord q) (hn : Rg3 q n) : ∀ e : Nat, Rg3 q (vE q n e) ∧ vE q n e ≠ n ∧ (vE q n e).1 = n.1
  | 0 => ⟨⟨hn.1, rg_mod h _, hn.2.2⟩, fun e => inc_ne h hn.2.1 (congrArg (fun z : Tri => z.2.1) e), rfl⟩
  | _ + 1 => ⟨⟨hn.1, hn.2.1, rg_mod h _⟩, fun e => inc_ne h hn.2.2 (congrArg (fun z : Tri => z.2.2) e), rfl⟩
theorem set_facts {q : Int} {ns : List Tri} {i : Nat} {n n' : Tri} (hi : ns[i]? = some n) (hr : ∀ z ∈ ns, Rg3 q z) (hn' : Rg3 q n') (hne : n' ≠ n) : (ns.set i n').length = ns.length ∧ (∀ z ∈ ns.set i n', Rg3 q z) ∧ ns.set i n' ≠ ns := by
  refine ⟨List.length_set, fun z hz => ?_, fun e => ?_⟩
  · rcases List.mem_or_eq_of_mem_set hz with hz | rfl
    · exact hr z hz
    · exact hn'
  · have this : (ns.set i n')[i]? = ns[i]? := congrArg (fun l => l[i]?) e
    rw [List.getElem?_set_self (List.getElem?_eq_some_iff.mp hi).1, hi] at this
    exact hne (Option.some.inj this)
theorem varied_ex {q mm : Int} {b : Bl} {ns : List Tri} {j : Nat} {nj : Tri} (h : Ord q) (hb : BlOk q b) (hl : ns.length ≤ 25) (hr : ∀ z ∈ ns, Rg3 q z) (hj : ns[j]? = some nj) (hj0 : nj.1 = 0) :
    ∃ b3 n3 n3j, R__law_varied [dBl b, dPa ns, .int mm, .int q, .int (j : Nat)] (.ret (.tuple [dBl b3, dPa n3])) ∧ BlOk q b3 ∧ n3.length = ns.length ∧ (∀ z ∈ n3, Rg3 q z) ∧ n3[j]? = some n3j ∧ n3j.1 = 0 ∧ (b3 ≠ b ∨ n3 ≠ ns) := by
  have hk0 := Int.emod_nonneg mm (b := 10) (by decide)
  have hk1 := Int.emod_lt_of_pos mm (b := 10) (by decide)
  obtain ⟨k, hk⟩ := Int.eq_ofNat_of_zero_le hk0
  have hjl : j < ns.length := (List.getElem?_eq_some_iff.mp hj).1
  by_cases hk7 : k < 7
  · exact ⟨vB q b k, ns, nj, .mkB h hk7 hk, (vB_ok h hb k).1, rfl, hr, hj, hj0, .inl (vB_ok h hb k).2⟩
  · have hm0 := Int.emod_nonneg (mm / 10) (b := (ns.length : Int)) (by omega)
    have hm1 := Int.emod_lt_of_pos (mm / 10) (b := (ns.length : Int)) (by omega)
    obtain ⟨i, hi⟩ := Int.eq_ofNat_of_zero_le hm0
    have hil : i < ns.length := by omega
    have hni : ns[i]? = some ns[i] := List.getElem?_eq_getElem hil
    generalize ns[i] = n at hni
    have hn := hr n (List.mem_of_getElem? hni)
    by_cases hc : k = 7 ∧ (i : Int) ≠ (j : Int)
    · obtain ⟨hk, hij⟩ := hc
      subst hk
      obtain ⟨s1, s2, s3⟩ := set_facts (n' := ((n.1 + 1) % q, n.2)) hni hr ⟨rg_mod h _, hn.2⟩ (fun e => inc_ne h hn.1 (congrArg Prod.fst e))
      exact ⟨b, _, nj, .mkC h hk hi hij hni hl, hb, s1, s2, by rw [List.getElem?_set_ne (by omega)]; exact hj, hj0, .inr s3⟩
    · have hke : ∃ e : Nat, (k = 7 ∧ (i : Int) = (j : Int) ∧ e = 1 ∨ k = 8 ∧ e = 0 ∨ k = 9 ∧ e = 1) := by
        by_cases k7 : k = 7
        · exact ⟨1, .inl ⟨k7, by omega, rfl⟩⟩
        · by_cases k8 : k = 8
          · exact ⟨0, .inr (.inl ⟨k8, rfl⟩)⟩
          · exact ⟨1, .inr (.inr ⟨by omega, rfl⟩)⟩
      obtain ⟨e, he⟩ := hke
      obtain ⟨v1, v2, v3⟩ := vE_ok h hn e
      obtain ⟨s1, s2, s3⟩ := set_facts (n' := vE q n e) hni hr v1 v2
      by_cases hij : i = j
      · subst hij
        rw [hj] at hni
        cases hni
        exact ⟨b, _, vE q nj e, .mkE h hk he hi hj hl, hb, s1, s2, List.getElem?_set_self hil, v3.trans hj0, .inr s3⟩
      · exact ⟨b, _, nj, .mkE h hk he hi hni hl, hb, s1, s2, by rw [List.getElem?_set_ne hij]; exact hj, hj0, .inr s3⟩

/-! ### what the row gives -/
def gF (k : Int) : Str := ([("a" : Str), "gate", "zz"] : List Str).getD k.toNat "a"
theorem gtA : GtOk "a" := ⟨by decide +kernel, by decide +kernel, by decide +kernel⟩
theorem gtG : GtOk "gate" := ⟨by decide +kernel, by decide +kernel, by decide +kernel⟩
theorem gtZ : GtOk "zz" := ⟨by decide +kernel, by decide +kernel, by decide +kernel⟩
theorem gF_ok {k : Int} (h1 : 0 ≤ k) (h2 : k < 3) : atI [PyData.str "a", .str "gate", .str "zz"] k = some (.str (gF k)) ∧ GtOk (gF k) := by
  obtain ⟨n, rfl⟩ := Int.eq_ofNat_of_zero_le h1
  have hn : n < 3 := by omega
  match n, hn with
  | 0, _ => exact ⟨rfl, gtA⟩
  | 1, _ => exact ⟨rfl, gtG⟩
  | 2, _ => exact ⟨rfl, gtZ⟩
theorem cut_takeN {xs : List PyData} {i : Nat} : cutD xs none (some (i : Int)) = xs.take i := by
  unfold cutD
  rw [HT.sIx_none, HT.sIx_nat]
  simp only [List.drop_zero, Nat.sub_zero]
  by_cases h : i ≤ xs.length
  · rw [Nat.min_eq_left h]
  · rw [Nat.min_eq_right (by omega), List.take_of_length_le (Nat.le_refl _), List.take_of_length_le (by omega)]
def cutN (b : Bool) : Nat := if b then 25 else 12
theorem cutN_ix (b : Bool) : atI [PyData.int 12, .int 25] (if b then 1 else 0) = some (.int (cutN b : Nat)) := by cases b <;> rfl
/-- the pairs of the law -/
def prA (xs : List Int) (w : Pr) : List Pr := (prF xs 15 w).take (cutN (decide (atF xs 29 % 8 = 0)))
def prL (xs : List Int) (w : Pr) : List Pr := if w ∈ prA xs w then prA xs w else [w]
theorem prA_ok {xs : List Int} {w : Pr} : SetOk (prA xs w) ∧ (prA xs w).length ≤ 25 := by
  obtain ⟨h1, ⟨h2, h3⟩, _⟩ := prU_ok (xs := xs) (k := 15) (w := w) 25 (Nat.le_refl _)
  refine ⟨⟨fun p hp => h2 p (List.mem_of_mem_take hp), h3.sublist (List.take_sublist _ _)⟩, ?_⟩
  unfold prA prF
  rw [List.length_take]
  omega
theorem prL_ok {xs : List Int} {w : Pr} (hw : PrOk w) : SetOk (prL xs w) ∧ (prL xs w).length ≤ 25 ∧ w ∈ prL xs w ∧ 0 < (prL xs w).length := by
  unfold prL
  split
  · next h => exact ⟨prA_ok.1, prA_ok.2, h, List.length_pos_of_mem h⟩
  · refine ⟨⟨fun p hp => ?_, List.pairwise_singleton _ _⟩, Nat.le_of_ble_eq_true rfl, List.mem_singleton.mpr rfl, Nat.le_of_ble_eq_true rfl⟩
    rw [List.mem_singleton.mp hp]
    exact hw
theorem ns1_own {q k : Int} {xs : List Int} {w : Pr} {i : Nat} : (ns1 q xs k w w i).1 = 0 := by
  unfold ns1
  rw [if_pos rfl]
end Ck

/-! The law is walked. -/
namespace Ck
open PySem PySem.Spec PyProof.Rows L2

theorem wk_nil : Wk [] [] := ⟨rfl, fun i s h _ => by simp at h⟩
theorem wk_same {s : Sl} {r r' : Ro} (h : Wk r r') : Wk (s :: r) (s :: r') := ⟨by rw [List.length_cons, List.length_cons, h.1], fun i z e hn => by
  cases i with
  | zero => exact e
  | succ i => exact h.2 i z e hn⟩
theorem wk_no {s : Sl} {r r' : Ro} (h : Wk r r') : Wk (s :: r) (.no :: r') := ⟨by rw [List.length_cons, List.length_cons, h.1], fun i z e hn => by
  cases i with
  | zero =>
    cases e
    exact absurd rfl hn
  | succ i => exact h.2 i z e hn⟩
theorem ex_wk {K : PySem.W.Frag} {W : WX} {t : TS} {r r' r2 : Ro} (h : ExS K W t r (.nx r')) (w : Wk r' r2) : ExS K W t r (.nx r2) := fun M0 H0 D σ M H R p =>
  h M0 H0 D σ M H R fun σ' M' H' s R' => p σ' M' H' s (R'.weak w)
theorem set_same {r : Ro} {i : Nat} {s : Sl} (h : r[i]? = some s) : r.set i s = r := by
  apply List.ext_getElem?
  intro j
  by_cases hij : i = j
  · subst hij
    rw [List.getElem?_set_self (List.getElem?_eq_some_iff.mp h).1, h]
  · rw [List.getElem?_set_ne hij]
theorem take2 {x y : PyData} {xs : List PyData} : cutD (x :: y :: xs) none (some 2) = [x, y] := by
  have := cut_take (xs := x :: y :: xs) (i := 2) (by simp)
  exact this
section
variable {K : PySem.W.Frag} {W : WX} {r : Ro} {q : Int} {a : Nat → Int} {xs : List Int}
theorem ex_cut {p : Tri} (h5 : r[5]? = some (.dat (dPn p))) (h6 : r[6]? = some (.dat (dPs (prA xs p.2)))) : ExS K W (t_lawCut K) r (.nx (r.set 6 (.dat (dPs (prL xs p.2))))) := by
  by_cases hin : p.2 ∈ prA xs p.2
  · have e : prL xs p.2 = prA xs p.2 := if_pos hin
    rw [e, set_same h6]
    exact ex_ifF (eb_niF (n := 1) (by decide) (ev_pass (ev_var h5)) (ev_var h6) pl_dPair pl_dPs (mem_dPs.mpr hin)) ex_next
  · have e : prL xs p.2 = [p.2] := if_neg hin
    rw [e]
    exact ex_ifT (eb_niT (n := 1) (by decide) (ev_pass (ev_var h5)) (ev_var h6) pl_dPair pl_dPs fun z => hin (mem_dPs.mp z)) (ex_set (ev_rest (eo_lst (ea_cons (ev_pass (ev_var h5)) ea_nil) (len_le rfl))))
theorem ex_par {p p1 : Tri} {k : Nat} (hp : PnOk q p) (hp1 : PnOk q p1) : ∃ p2, PnOk q p2 ∧ ∀ r : Ro, r[1]? = some (.dat (dRow xs)) → r[5]? = some (.dat (dPn p)) → r[12]? = some (.dat (.int (k : Nat))) → r[17]? = some (.dat (dPn p1)) → ExS K W (t_lawPar K R__law_at) r (.nx (r.set 17 (.dat (dPn p2)))) := by
  have hc : ∀ r : Ro, r[1]? = some (.dat (dRow xs)) → r[12]? = some (.dat (.int (k : Nat))) → EvB (tTest (tOp rEq (tOp aMod (tCB cInt (tCons (tCallS (spD K R__law_at) (WE W0) (tCons (tVar 1) (tCons (tOp aAdd (tC (.int 83)) (tOp aMul (tC (.int 12)) (tVar 12))) tNil))) tNil)) (tC (.int 2))) (tC (.int 0)))) r (decide (atF xs (83 + 12 * (k : Int)) % 2 = 0)) := fun r h1 h12 =>
    eb_test (ei_eq (ei_mod (ev_cb (ea_cons (ev_call (ea_cons (ev_var h1) (ea_cons (ei_add ev_int (ei_mul ev_int (ev_var h12) (mulL (by decide) (by decide)))) ea_nil)) .mk) ea_nil) cb_int) ev_int (by decide)) ev_int)
  by_cases h : atF xs (83 + 12 * (k : Int)) % 2 = 0
  · rw [decide_eq_true h] at hc
    exact ⟨(p1.1, p.2), ⟨hp1.1, hp.2⟩, fun r h1 h5 h12 h17 => ex_ifT (hc r h1 h12) (ex_set (ev_tup (ea_cons (ev_op (ev_var h17) ev_int (od_ixT rfl)) (ea_cons (ev_op (ev_var h5) ev_int (od_ixT rfl)) (ea_cons (ev_op (ev_var h5) ev_int (od_ixT rfl)) ea_nil))) (len_le rfl)))⟩
  · rw [decide_eq_false h] at hc
    exact ⟨p1, hp1, fun r h1 h5 h12 h17 => by
      rw [set_same h17]
      exact ex_ifF (hc r h1 h12) ex_next⟩
theorem ex_try17 {mg : Str → Option Value} (T : Tx K mg) {p p1 : Tri} (hq : Ord q) (hp : PnOk q p) (hm : mk a p % q ≠ 0) (hp1 : PnOk q p1) : ∃ p2, PnOk q p2 ∧ mk a p2 % q ≠ 0 ∧ ∀ r : Ro, r[2]? = some (.dat (dSet q a)) → r[5]? = some (.dat (dPn p)) → r[17]? = some (.dat (dPn p1)) → ExS K W (t_lawTry K R_mark_of) r (.nx (r.set 17 (.dat (dPn p2)))) := by
  by_cases h : mk a p1 % q = 0
  · exact ⟨p, hp, hm, fun r h2 h5 h17 => ex_tryX (fun W' => ex_dropX (ev_callX (ea_cons (ev_var h2) (ea_cons (ev_var h17) ea_nil)) (.mkX hq hp1 h))) T.mNN (fun b => ex_set (ev_var h5))⟩
  · exact ⟨p1, hp1, h, fun r h2 h5 h17 => by
      rw [set_same h17]
      exact ex_tryOk (fun W' => ex_drop (ev_call (ea_cons (ev_var h2) (ea_cons (ev_var h17) ea_nil)) (.mk hq hp1 h))) (fun _ _ e => Res.noConfusion e)⟩
end
/-- the law's slots behind its first check -/
abbrev LE (xs : List Int) (q : Int) (a : Nat → Int) (x1 x2 : Int) (g : Str) (m : Int) (ps : List Pr) (S : Ses) (i : Nat) (ns : List Tri) (n : Tri) : Ro :=
  [.no, .dat (dRow xs), .dat (dSet q a), .dat (.int q), .dat (.list [.int x1, .int x2]), .dat (dPn S.p), .dat (dPs ps), .dat (dCtx g m), .dat (dPa ns), .dat (shS q a g m ps S i ns n), .dat (.int (G q (a 0 * x1))), .no, .no, .dat (dTk q S.t), .dat (dBl S.b), .dat (dRec q S.p S.f S.c S.r),
    .no, .no, .no, .no, .no, .no, .no, .no, .no]
section
variable {K : PySem.W.Frag} {W : WX} {q : Int} {a : Nat → Int} {xs : List Int} {x1 x2 : Int} {g : Str} {m : Int} {ps : List Pr} {S : Ses} {i : Nat} {ns : List Tri} {n : Tri}
/-- a spoilt record explains nothing -/
theorem ex_F (c : Scn q a x1 g m ps S i ns n) {c' r' : Int} (hb : (c' % q ≠ S.c ∧ r' % q = S.r) ∨ (c' % q = S.c ∧ r' % q ≠ S.r)) :
    ExS K W (t_lawF K R_explain_showing) ((LE xs q a x1 x2 g m ps S i ns n).set 11 (.dat (.tuple [.int c', .int r']))) (.nx (LE xs q a x1 x2 g m ps S i ns n)) := by
  have hpos := c.hq.pos
  have hbad := c.ss.bad c.hq c.a0 c.xq (rg_mod c.hq c') (rg_mod c.hq r') hb
  exact ex_forget 11 (ex_forget 16 (ex_seq (ex_set (ev_op (ev_is (ev_slT (ev_var rfl) ep_none (ep_some ev_int)) (congrArg PyData.tuple take2)) (ev_tup (ea_cons (ei_mod (ev_cb (ea_cons (ev_op (ev_var rfl) ev_int (od_ixT rfl)) ea_nil) cb_int) (ev_var rfl) hpos) (ea_cons (ei_mod (ev_cb (ea_cons (ev_op (ev_var rfl) ev_int (od_ixT rfl)) ea_nil) cb_int) (ev_var rfl) hpos) ea_nil)) (len_le rfl)) (od_catT (Nat.le_of_ble_eq_true rfl))))
      (ex_ifF (eb_F (ev_op (ev_call (ea_cons (ev_var rfl) (ea_cons (ev_var rfl) (ea_cons (ev_var rfl) (ea_cons (ev_var rfl) (ea_cons (ev_var rfl) (ea_cons (ev_var rfl) ea_nil)))))) (c.exN c.ss c.xq (List.mem_of_getElem? c.hi) (rg_mod c.hq c') (rg_mod c.hq r') (.inr hbad))) ev_non od_notN) rfl) ex_next)) rfl) rfl
theorem ex_loopF (c : Scn q a x1 g m ps S i ns n) :
    ExS K W (tFor (iSeq K (tLst (tCons (tTup (tCons (tOp aAdd (tOp (rIx K) (tVar 15) (tC (.int 2))) (tC (.int 1))) (tCons (tOp (rIx K) (tVar 15) (tC (.int 3))) tNil))) (tCons (tTup (tCons (tOp (rIx K) (tVar 15) (tC (.int 2))) (tCons (tOp aAdd (tOp (rIx K) (tVar 15) (tC (.int 3))) (tC (.int 1))) tNil))) (tCons (tTup (tCons (tOp aSub (tOp (rIx K) (tVar 15) (tC (.int 2))) (tC (.int 1))) (tCons (tOp (rIx K) (tVar 15) (tC (.int 3))) tNil))) (tCons (tTup (tCons (tOp (rIx K) (tVar 15) (tC (.int 2))) (tCons (tOp aSub (tOp (rIx K) (tVar 15) (tC (.int 3))) (tC (.int 1))) tNil))) tNil)))))) (gName 11) (t_lawF K R_explain_showing))
      (LE xs q a x1 x2 g m ps S i ns n) (.nx (LE xs q a x1 x2 g m ps S i ns n)) := by
  have hc := c.ss.cr c.hq
  have hr := c.ss.rr c.hq
  have ec : S.c % q = S.c := Int.emod_eq_of_lt hc.1 hc.2
  have er : S.r % q = S.r := Int.emod_eq_of_lt hr.1 hr.2
  refine ex_for (fun _ => LE xs q a x1 x2 g m ps S i ns n) (ws_list (ev_rest (eo_lst (ea_cons (ev_tup (ea_cons (ei_add (ev_op (ev_var rfl) ev_int (od_ixT rfl)) ev_int) (ea_cons (ev_op (ev_var rfl) ev_int (od_ixT rfl)) ea_nil)) (len_le rfl)) (ea_cons (ev_tup (ea_cons (ev_op (ev_var rfl) ev_int (od_ixT rfl)) (ea_cons (ei_add (ev_op (ev_var rfl) ev_int (od_ixT rfl)) ev_int) ea_nil)) (len_le rfl)) (ea_cons (ev_tup (ea_cons (ei_sub (ev_op (ev_var rfl) ev_int (od_ixT rfl)) ev_int) (ea_cons (ev_op (ev_var rfl) ev_int (od_ixT rfl)) ea_nil)) (len_le rfl)) (ea_cons (ev_tup (ea_cons (ev_op (ev_var rfl) ev_int (od_ixT rfl)) (ea_cons (ei_sub (ev_op (ev_var rfl) ev_int (od_ixT rfl)) ev_int) ea_nil)) (len_le rfl)) ea_nil)))) (len_le rfl)))) rfl fun i d hd => ?_
  match i, hd with
  | 0, hd => cases hd; exact ⟨_, _, tg_name, ex_F c (.inl ⟨inc_ne c.hq hc, er⟩)⟩
  | 1, hd => cases hd; exact ⟨_, _, tg_name, ex_F c (.inr ⟨ec, inc_ne c.hq hr⟩)⟩
  | 2, hd => cases hd; exact ⟨_, _, tg_name, ex_F c (.inl ⟨dec_ne c.hq hc, er⟩)⟩
  | 3, hd => cases hd; exact ⟨_, _, tg_name, ex_F c (.inr ⟨ec, dec_ne c.hq hr⟩)⟩
  | i + 4, hd => simp at hd
theorem two_ix {k : Int} (h1 : 0 ≤ k) (h2 : k < 3) : ∃ x', (x' = x1 ∨ x' = x2) ∧ atI [PyData.int x1, .int x2] (k / 2) = some (.int x') := by
  obtain ⟨n, rfl⟩ := Int.eq_ofNat_of_zero_le h1
  have hn : n < 3 := by omega
  match n, hn with
  | 0, _ => exact ⟨x1, .inl rfl, rfl⟩
  | 1, _ => exact ⟨x1, .inl rfl, rfl⟩
  | 2, _ => exact ⟨x2, .inr rfl, rfl⟩
/-- another session -/
theorem ex_G {mg : Str → Option Value} (T : Tx K mg) (c : Scn q a x1 g m ps S i ns n) (ha2 : a 2 % q ≠ 0) (hx2 : 1 ≤ x2 ∧ x2 < q) {k : Nat} :
    ExS K W (t_lawG K R__law_at R__law_person R__law_session R_explain_showing R_mark_of R__law_replayed R__law_varied) ((LE xs q a x1 x2 g m ps S i ns n).set 12 (.dat (.int (k : Nat)))) (.nx (LE xs q a x1 x2 g m ps S i ns n)) := by
  have hq := c.hq
  have hps := c.st.len
  obtain ⟨p2, hp2, w2⟩ := ex_par (K := K) (W := W) (xs := xs) (k := k) (p1 := psn q a (ps0 q xs (80 + 12 * (k : Int)))) c.ss.p (psn_ok (p := ps0 q xs (80 + 12 * (k : Int))) hq ha2 (ps0_ok hq)).1
  obtain ⟨p3, hp3, hm3, w3⟩ := ex_try17 (W := W) T hq c.ss.p c.ss.m hp2
  obtain ⟨x', hx', ix⟩ := two_ix (x1 := x1) (x2 := x2) (k := atF xs (23 + (k : Int)) % 3) (Int.emod_nonneg _ (by decide)) (Int.emod_lt_of_pos _ (by decide))
  have hx1' : 1 ≤ x' ∧ x' < q := by
    rcases hx' with rfl | rfl
    · exact ⟨c.x1, c.x2⟩
    · exact hx2
  have o := ses_ok (xs := xs) (k := 84 + 12 * (k : Int)) (x := x') hq hp3 hm3
  have eo : (ses q a x' p3 xs (84 + 12 * (k : Int))).p = p3 := rfl
  refine (ex_seq (ex_set (ev_call (ea_cons (ev_var rfl) (ea_cons (ev_var rfl) (ea_cons (ei_add ev_int (ei_mul ev_int (ev_var rfl) (mulL (by decide) (by decide)))) ea_nil))) (.mk hq ha2)))
      (ex_seq (w2 _ rfl rfl rfl rfl)
      (ex_seq (w3 _ rfl rfl rfl)
      ?_)))
  simp only [LE, List.set_cons_succ, List.set_cons_zero]
  refine (ex_seq (ex_set (ev_op (ev_var rfl) (ei_div (ei_mod (ev_cb (ea_cons (ev_call (ea_cons (ev_var rfl) (ea_cons (ei_add ev_int (ev_var rfl)) ea_nil)) .mk) ea_nil) cb_int) ev_int (by decide)) ev_int (by decide)) (od_ixL ix)))
      (ex_seq (ex_asg (ev_call (ea_cons (ev_var rfl) (ea_cons (ev_var rfl) (ea_cons (ev_var rfl) (ea_cons (ev_var rfl) (ea_cons (ei_add ev_int (ei_mul ev_int (ev_var rfl) (mulL (by decide) (by decide)))) ea_nil))))) (.mk hq hx1'.1 hx1'.2 hp3 hm3)) (tg_tup (tgs_cons tg_name (tgs_cons tg_name (tgs_cons tg_name tgs_nil))) rfl))
      ?_))
  simp only [List.set_cons_succ, List.set_cons_zero]
  generalize ses q a x' p3 xs (84 + 12 * (k : Int)) = O at o eo
  subst eo
  by_cases hin : O.p.2 ∈ ps
  · by_cases hxx : x' = x1
    · subst hxx
      obtain ⟨j, hjl, hje⟩ := List.getElem_of_mem hin
      have hj : ps[j]? = some O.p.2 := by rw [List.getElem?_eq_getElem hjl, hje]
      have hwl : j < (wsS q a g m ps S i ns n).length := by rw [c.sh.len]; exact hjl
      have hw : (wsS q a g m ps S i ns n)[j]? = some _ := List.getElem?_eq_getElem hwl
      generalize (wsS q a g m ps S i ns n)[j] = w at hw
      have y := c.exY o hj hw
      have rp := c.rep o hj hw
      obtain ⟨k1, k2, k3⟩ := c.n2ok (O := O) hw
      obtain ⟨b3, n3, n3j, v1, v2, v3, v4, v5, v6, v7⟩ := varied_ex (mm := atF xs (27 + (k : Int))) hq (c.b2ok o) (by rw [k1]; exact hps) k2 k3 rfl
      obtain ⟨d, u1, u2, u3⟩ := c.vary o hj hw v2 (v3.trans k1) v4 v5 v6 v7
      refine (ex_seq (ex_set (ev_call (ea_cons (ev_var rfl) (ea_cons (ev_var rfl) (ea_cons (ev_var rfl) (ea_cons (ev_var rfl) (ea_cons (ev_var rfl) (ea_cons (ev_var rfl) ea_nil)))))) y))
      ?_)
      simp only [List.set_cons_succ, List.set_cons_zero]
      refine ex_ifF (eb_orF (eb_niF (n := 1) (by decide) (ev_pass (ev_var rfl)) (ev_var rfl) pl_dPair pl_dPs (mem_dPs.mpr hin)) (eb_F (ei_ne (ev_var rfl) (ev_op (ev_var rfl) ev_int (od_ixL rfl))) (by rw [decide_eq_true rfl]; rfl))) ?_
      refine (ex_seq (ex_ifF (eb_orF (eb_notF (eb_B (ev_isTup (ev_var rfl)))) (eb_F (ei_ne (ev_cb (ea_cons (ev_var rfl) ea_nil) cb_lenT) ev_int) rfl)) ex_next)
      (ex_seq (ex_ifF (eb_neF (n := 6) (by decide) (ev_call (ea_cons (ev_var rfl) (ea_cons (ev_var rfl) (ea_cons (ev_var rfl) (ea_cons (ev_var rfl) (ea_cons (ev_var rfl) (ea_cons (ev_op (ev_var rfl) ev_int (od_ixT rfl)) (ea_cons (ev_op (ev_var rfl) ev_int (od_ixT rfl)) ea_nil))))))) rp) (ev_var rfl) pl_dSho) ex_next)
      (ex_seq (ex_set (ev_indexP (n := 1) (by decide) (ev_var rfl) (ev_pass (ev_var rfl)) pl_dPs (get_dPs hj) (idx_ok c.st.set hj)))
      (ex_seq (ex_set (ev_call (ea_cons (ev_op (ev_var rfl) ev_int (od_ixT rfl)) (ea_cons (ev_op (ev_var rfl) ev_int (od_ixT rfl)) (ea_cons (ev_call (ea_cons (ev_var rfl) (ea_cons (ei_add ev_int (ev_var rfl)) ea_nil)) .mk) (ea_cons (ev_var rfl) (ea_cons (ev_var rfl) ea_nil))))) v1))
      ?_))))
      simp only [List.set_cons_succ, List.set_cons_zero]
      exact ex_wk (ex_ifF (eb_eqF (n := 6) (by decide) (ev_call (ea_cons (ev_var rfl) (ea_cons (ev_var rfl) (ea_cons (ev_var rfl) (ea_cons (ev_var rfl) (ea_cons (ev_var rfl) (ea_cons (ev_op (ev_var rfl) ev_int (od_ixT rfl)) (ea_cons (ev_op (ev_var rfl) ev_int (od_ixT rfl)) ea_nil))))))) u1) (ev_var rfl) u2 pl_dSho u3) ex_next) (by repeat (first | exact wk_nil | apply wk_same | apply wk_no))
    · have ot := o.other hq c.a0 ⟨Int.le_of_lt (by have := c.x1; omega), c.x2⟩ ⟨by omega, hx1'.2⟩ hxx
      have y := c.exN o (sm_ne hx1'.1 hx1'.2) hin (o.cr hq) (o.rr hq) (.inr ot)
      refine (ex_seq (ex_set (ev_call (ea_cons (ev_var rfl) (ea_cons (ev_var rfl) (ea_cons (ev_var rfl) (ea_cons (ev_var rfl) (ea_cons (ev_var rfl) (ea_cons (ev_var rfl) ea_nil)))))) y))
      ?_)
      simp only [List.set_cons_succ, List.set_cons_zero]
      exact ex_wk (ex_ifT (eb_orTr (eb_niF (n := 1) (by decide) (ev_pass (ev_var rfl)) (ev_var rfl) pl_dPair pl_dPs (mem_dPs.mpr hin)) (eb_T (ei_ne (ev_var rfl) (ev_op (ev_var rfl) ev_int (od_ixL rfl))) (by rw [decide_eq_false hxx]; rfl))) (ex_ifF (eb_F (ev_op (ev_var rfl) ev_non od_notN) rfl) ex_next)) (by repeat (first | exact wk_nil | apply wk_same | apply wk_no))
  · have y := c.exO hin (c' := O.c) (r' := O.r)
    refine (ex_seq (ex_set (ev_call (ea_cons (ev_var rfl) (ea_cons (ev_var rfl) (ea_cons (ev_var rfl) (ea_cons (ev_var rfl) (ea_cons (ev_var rfl) (ea_cons (ev_var rfl) ea_nil)))))) y))
      ?_)
    simp only [List.set_cons_succ, List.set_cons_zero]
    exact ex_wk (ex_ifT (eb_orTl (eb_niT (n := 1) (by decide) (ev_pass (ev_var rfl)) (ev_var rfl) pl_dPair pl_dPs fun e => hin (mem_dPs.mp e))) (ex_ifF (eb_F (ev_op (ev_var rfl) ev_non od_notN) rfl) ex_next)) (by repeat (first | exact wk_nil | apply wk_same | apply wk_no))
theorem ex_T {mg : Str → Option Value} (T : Tx K mg) (c : Scn q a x1 g m ps S i ns n) (ha2 : a 2 % q ≠ 0) (hx2 : 1 ≤ x2 ∧ x2 < q) :
    ExS K W (t_lawT K R__law_at R__law_person R__law_session R_explain_showing R_mark_of R__law_replayed R__law_varied) (LE xs q a x1 x2 g m ps S i ns n) (.ret (.bool true)) := by
  have h4 := Int.emod_nonneg (atF xs 22) (b := 4) (by decide)
  have h4' := Int.emod_lt_of_pos (atF xs 22) (b := 4) (by decide)
  refine ex_seq (ex_ifF (eb_neF (n := 6) (by decide) (ev_call (ea_cons (ev_var rfl) (ea_cons (ev_var rfl) (ea_cons (ev_var rfl) (ea_cons (ev_var rfl) (ea_cons (ev_var rfl) (ea_cons (ev_var rfl) ea_nil)))))) c.own) (ev_tup (ea_cons (ev_var rfl) (ea_cons (ev_var rfl) ea_nil)) (len_le rfl)) (pl_tup (pl_cons pl_dBl (pl_cons pl_dPa pl_nil)))) ex_next) (ex_seq (ex_loopF c) (ex_seq
    (ex_for (fun _ => LE xs q a x1 x2 g m ps S i ns n) (wk_rng (ea_cons (ei_add ev_int (ei_mod (ev_cb (ea_cons (ev_call (ea_cons (ev_var rfl) (ea_cons ev_int ea_nil)) .mk) ea_nil) cb_int) ev_int (by decide))) ea_nil) (by omega)) rfl fun j d hd => ?_) (ex_ret ev_bl)))
  obtain ⟨_, rfl⟩ := rngD_get hd
  exact ⟨_, _, tg_name, ex_G T c ha2 hx2⟩
end
end Ck

/-! The law from its row on; its two promises. -/
namespace Ck
open PySem PySem.Spec PyProof.Rows L2

theorem se_ne {q s : Int} (h : Ord q) (i : Nat) : se q s i % q ≠ 0 := sm_ne (se_lo h s i) (se_hi h s i)
theorem ex_law {K : PySem.W.Frag} {W : WX} {E : XK} {mg : Str → Option Value} (T : Tx K mg) {xs : List Int} (hx : RowOk xs) :
    ExS K W (t_lawU K E R__law_setup R__law_at R__law_person R__law_session R__law_pairs R__law_noise R_make_showing R_key_of R_explain_showing R_mark_of R__law_replayed R__law_varied)
      [.no, .dat (dRow xs), .no, .no, .no, .no, .no, .no, .no, .no, .no, .no, .no, .no, .no, .no, .no, .no, .no, .no, .no, .no, .no, .no, .no] (.ret (.bool true)) := by
  have hq := qF_ok xs
  have ha0 := se_ne (s := atF xs 1) hq 0
  have ha2 := se_ne (s := atF xs 1) hq 2
  have hlo := hq.lo
  have hpos1 : 0 < qF xs - 1 := by omega
  have k1 := in1 (x := atF xs 2) hq
  have k2 := in1 (x := atF xs 3) hq
  have hm1 := at_b hx 21
  obtain ⟨g1, g2⟩ := gF_ok (k := atF xs 20 % 3) (Int.emod_nonneg _ (by decide)) (Int.emod_lt_of_pos _ (by decide))
  have hsu := R__law_setup.mk hx
  generalize qF xs = q at *
  generalize se q (atF xs 1) = a at *
  obtain ⟨hp, hm⟩ := psn_ok (p := ps0 q xs 4) hq ha2 (ps0_ok hq)
  generalize hP : psn q a (ps0 q xs 4) = P at hp hm
  have o := ses_ok (xs := xs) (k := 7) (x := 1 + atF xs 2 % (q - 1)) hq hp hm
  have eo : (ses q a (1 + atF xs 2 % (q - 1)) P xs 7).p = P := rfl
  have hpe : R__law_person [dSet q a, dRow xs, .int 4] (.ret (dPn P)) := by
    rw [← hP]
    exact .mk hq ha2
  refine (ex_seq (ex_set (ev_call (ea_cons (ev_var rfl) ea_nil) hsu))
      (ex_seq (ex_set (ev_op (ev_var rfl) ev_int (od_ixT rfl)))
      (ex_seq (ex_set (ev_rest (eo_lst (ea_cons (ei_add ev_int (ei_mod (ev_cb (ea_cons (ev_call (ea_cons (ev_var rfl) (ea_cons ev_int ea_nil)) .mk) ea_nil) cb_int) (ei_sub (ev_var rfl) ev_int) hpos1)) (ea_cons (ei_add ev_int (ei_mod (ev_cb (ea_cons (ev_call (ea_cons (ev_var rfl) (ea_cons ev_int ea_nil)) .mk) ea_nil) cb_int) (ei_sub (ev_var rfl) ev_int) hpos1)) ea_nil)) (len_le rfl))))
      (ex_seq (ex_set (ev_call (ea_cons (ev_var rfl) (ea_cons (ev_var rfl) (ea_cons ev_int ea_nil))) hpe))
      ?_))))
  simp only [List.set_cons_succ, List.set_cons_zero]
  refine (ex_seq (ex_asg (ev_call (ea_cons (ev_var rfl) (ea_cons (ev_op (ev_var rfl) ev_int (od_ixL rfl)) (ea_cons (ev_var rfl) (ea_cons (ev_var rfl) (ea_cons ev_int ea_nil))))) (.mk hq k1.1 k1.2 hp hm)) (tg_tup (tgs_cons tg_name (tgs_cons tg_name (tgs_cons tg_name tgs_nil))) rfl))
      ?_)
  simp only [List.set_cons_succ, List.set_cons_zero]
  generalize ses q a (1 + atF xs 2 % (q - 1)) P xs 7 = S at o eo
  subst eo
  generalize 1 + atF xs 2 % (q - 1) = x1 at *
  generalize 1 + atF xs 3 % (q - 1) = x2 at *
  obtain ⟨s1, s2, s3, s4⟩ := prL_ok (xs := xs) hp.2
  have st : StOk (gF (atF xs 20 % 3)) (atF xs 21) (prL xs S.p.2) := ⟨g2, ⟨hm1.1, by omega⟩, s1, s2, s4⟩
  refine (ex_seq (ex_set (ev_is (ev_rest (eo_slL (ev_call (ea_cons (ev_var rfl) (ea_cons ev_int (ea_cons (ev_var rfl) ea_nil))) .mk) ep_none (ep_some (ev_op (ev_rest (eo_lst (ea_cons ev_int (ea_cons ev_int ea_nil)) (len_le rfl))) (ev_cb (ea_cons (ei_eq (ei_mod (ev_cb (ea_cons (ev_call (ea_cons (ev_var rfl) (ea_cons ev_int ea_nil)) .mk) ea_nil) cb_int) ev_int (by decide)) ev_int) ea_nil) cb_intB) (od_ixL (cutN_ix _)))))) (?_ : _ = dPs (prA xs S.p.2))))
      (ex_seq (ex_cut rfl rfl)
      ?_))
  · show PyData.list (cutD ((prF xs 15 S.p.2).map dPair) none (some (cutN (decide (atF xs 29 % 8 = 0)) : Nat))) = _
    rw [cut_takeN, ← List.map_take]
    rfl
  simp only [List.set_cons_succ, List.set_cons_zero]
  generalize gF (atF xs 20 % 3) = g at *
  generalize prL xs S.p.2 = ps at *
  obtain ⟨i, hil, hie⟩ := List.getElem_of_mem s3
  have hi : ps[i]? = some S.p.2 := by rw [List.getElem?_eq_getElem hil, hie]
  have hgd : ps.getD i (0, 0) = S.p.2 := by rw [List.getD_eq_getElem?_getD, hi] <;> rfl
  have hno : R__law_noise [.int q, dPs ps, dPair S.p.2, dRow xs, .int 30] (.ret (dPa (nsF q xs 30 S.p.2 ps))) := .mk hq s2
  have n1 : (nsF q xs 30 S.p.2 ps).length = ps.length := nsU_len _
  have n2 : ∀ z ∈ nsF q xs 30 S.p.2 ps, Rg3 q z := nsU_rg hq _
  have n3 : (nsF q xs 30 S.p.2 ps)[i]? = some (ns1 q xs 30 S.p.2 S.p.2 i) := by
    have := nsU_get (q := q) (k := 30) (xs := xs) (w := S.p.2) (ps := ps) (j := i) ps.length hil
    rw [hgd] at this
    exact this
  have n4 := ns1_own (q := q) (k := 30) (xs := xs) (w := S.p.2) (i := i)
  generalize nsF q xs 30 S.p.2 ps = ns at *
  generalize ns1 q xs 30 S.p.2 S.p.2 i = n at *
  have c : Scn q a x1 g (atF xs 21) ps S i ns n := ⟨hq, ha0, k1.1, k1.2, st, o, hi, n1, n2, n3, n4⟩
  refine (ex_seq (ex_set (ev_tup (ea_cons (ev_op (ev_rest (eo_lst (ea_cons ev_str (ea_cons ev_str (ea_cons ev_str ea_nil))) (len_le rfl))) (ei_mod (ev_cb (ea_cons (ev_call (ea_cons (ev_var rfl) (ea_cons ev_int ea_nil)) .mk) ea_nil) cb_int) ev_int (by decide)) (od_ixL g1)) (ea_cons (ev_cb (ea_cons (ev_call (ea_cons (ev_var rfl) (ea_cons ev_int ea_nil)) .mk) ea_nil) cb_int) ea_nil)) (len_le rfl)))
      (ex_seq (ex_set (ev_call (ea_cons (ev_var rfl) (ea_cons (ev_var rfl) (ea_cons (ev_pass (ev_var rfl)) (ea_cons (ev_var rfl) (ea_cons ev_int ea_nil))))) hno))
      ?_))
  simp only [List.set_cons_succ, List.set_cons_zero]
  refine (ex_seq (ex_set (ev_call (ea_cons (ev_var rfl) (ea_cons (ev_var rfl) (ea_cons (ev_var rfl) (ea_cons (ev_var rfl) (ea_cons (ev_var rfl) (ea_cons (ev_var rfl) (ea_cons (ev_var rfl) ea_nil))))))) c.made))
      (ex_seq (ex_set (ev_call (ea_cons (ev_var rfl) (ea_cons (ev_op (ev_var rfl) ev_int (od_ixL rfl)) ea_nil)) (.mk hq k1.1 k1.2)))
      ?_))
  simp only [List.set_cons_succ, List.set_cons_zero]
  exact ex_T (x2 := x2) T c ha2 k2

/-! ### the promises of _law_row and of law -/
def cutH (H : Hp) (p : Addr) : Hp := fun b => if b = p then H b else none
theorem cutH_same {H : Hp} {p : Addr} : Same (cutH H p) H := fun b u e => by
  unfold cutH at e
  split at e
  · exact e
  · cases e
theorem cutH_sq {K : PySem.W.Frag} {H : Hp} {p : Addr} {ys : List L2.V} (h : SqL K H p ys) : SqL K (cutH H p) p ys := by
  have e : cutH H p p = H p := if_pos rfl
  rcases h with (h | ⟨o, h⟩) | h
  · exact .inl (.inl (e.trans h))
  · exact .inl (.inr ⟨o, e.trans h⟩)
  · exact .inr h
def spRow (K : PySem.W.Frag) : Sp := fun vs H Q _ => ∃ (p : Addr) (ns : List Int), vs = [.ref p] ∧ SqL K H p (ns.map L2.V.int) ∧ ns.length ≤ 63 ∧ ∀ v M' H', Grow (cutH H p) H M' H' → Rp M' v (dRow (rowF ns)) → Q v H'
def spLaw (K : PySem.W.Frag) : Sp := fun vs H Q _ => ∃ (p : Addr) (ns : List Int), vs = [.ref p] ∧ SqL K H p (ns.map L2.V.int) ∧ ns.length ≤ 63 ∧ ∀ H', Q (.bl true) H'
theorem run_row {K : PySem.W.Frag} (E : XK) (vs : List L2.V) (H : Hp) (Q : VK) (h : spRow K vs H Q E) : t__law_row K E { nx := fun _ H' => Q .non H', rt := Q } (L2.start N__law_row vs) H := by
  obtain ⟨p, ns, rfl, hS, hl, q⟩ := h
  refine ex_row (E := E) hl (cutH_sq hS) (cutH H p) H _ (L2.start N__law_row [.ref p]) (cutH H p) H ?_ q
  refine ⟨Grow.refl cutH_same, rfl, fun i d e => ?_, fun i d e => ?_, fun i j d d' b e => ?_, fun i v m e => ?_⟩
  · have := List.mem_of_getElem? e
    simp at this
  · have := List.mem_of_getElem? e
    simp at this
  · have := List.mem_of_getElem? e
    simp at this
  · match i, e with
    | 0, e => cases e; exact ⟨rfl, Same.refl _⟩
    | 1, e => cases e
    | 2, e => cases e
    | 3, e => cases e
    | 4, e => cases e
    | 5, e => cases e
    | i + 6, e => simp at e
theorem run_law {K : PySem.W.Frag} {mg : Str → Option Value} (T : Tx K mg) (E : XK) (vs : List L2.V) (H : Hp) (Q : VK) (h : spLaw K vs H Q E) :
    (tSeq (tAsg (tCallS (spRow K) (WE W0) (tCons (tVar 0) tNil)) (gName 1)) (t_lawU K E R__law_setup R__law_at R__law_person R__law_session R__law_pairs R__law_noise R_make_showing R_key_of R_explain_showing R_mark_of R__law_replayed R__law_varied))
      { nx := fun _ H' => Q .non H', rt := Q } (L2.start N_law vs) H := by
  obtain ⟨p, ns, rfl, hS, hl, q⟩ := h
  refine ⟨.ref p, rfl, p, ns, rfl, hS, hl, fun v M' H' g r => ?_⟩
  refine ex_law (W := WD E) (E := E) T (rowF_ok ns) (cutH H p) H _ ((L2.start N_law [.ref p]).set 1 (some v)) M' H' ?_ fun u M2 H2 g2 r2 => ?_
  · have R0 : Rep (cutH H p) H [.no, .no, .no, .no, .no, .no, .no, .no, .no, .no, .no, .no, .no, .no, .no, .no, .no, .no, .no, .no, .no, .no, .no, .no, .no] (L2.start N_law [.ref p]) (cutH H p) H := by
      refine ⟨Grow.refl cutH_same, rfl, fun i d e => ?_, fun i d e => ?_, fun i j d d' b e => ?_, fun i v m e => ?_⟩
      · have := List.mem_of_getElem? e
        simp at this
      · have := List.mem_of_getElem? e
        simp at this
      · have := List.mem_of_getElem? e
        simp at this
      · have := List.mem_of_getElem? e
        simp at this
    exact (R0.grow g).put (j := 1) r
  · cases r2
    exact q H2
end Ck

namespace Ck
open PySem PySem.Spec PyProof.Rows L2
def dd_coin : He.DefD := ⟨("coin", none), "coin", "coin", defArgs (topS 9), defBody (topS 9), defScope (topS 9), [], []⟩
def dd_challenge : He.DefD := ⟨("challenge", none), "challenge", "challenge", defArgs (topS 10), defBody (topS 10), defScope (topS 10), [], []⟩
def dd_joined_text : He.DefD := ⟨("joined_text", none), "joined_text", "joined_text", defArgs (topS 11), defBody (topS 11), defScope (topS 11), [], []⟩
def dd_challenge_of : He.DefD := ⟨("challenge_of", none), "challenge_of", "challenge_of", defArgs (topS 12), defBody (topS 12), defScope (topS 12), [], []⟩
def dd_raised : He.DefD := ⟨("raised", none), "raised", "raised", defArgs (topS 15), defBody (topS 15), defScope (topS 15), [], []⟩
def dd_is_element : He.DefD := ⟨("is_element", none), "is_element", "is_element", defArgs (topS 16), defBody (topS 16), defScope (topS 16), [], []⟩
def dd_check_element : He.DefD := ⟨("check_element", none), "check_element", "check_element", defArgs (topS 17), defBody (topS 17), defScope (topS 17), [], []⟩
def dd_power : He.DefD := ⟨("power", none), "power", "power", defArgs (topS 18), defBody (topS 18), defScope (topS 18), [], []⟩
def dd_product : He.DefD := ⟨("product", none), "product", "product", defArgs (topS 19), defBody (topS 19), defScope (topS 19), [], []⟩
def dd_product_of_powers : He.DefD := ⟨("product_of_powers", none), "product_of_powers", "product_of_powers", defArgs (topS 20), defBody (topS 20), defScope (topS 20), [], []⟩
def dd_inverse : He.DefD := ⟨("inverse", none), "inverse", "inverse", defArgs (topS 21), defBody (topS 21), defScope (topS 21), [], []⟩
def dd_logarithm : He.DefD := ⟨("logarithm", none), "logarithm", "logarithm", defArgs (topS 22), defBody (topS 22), defScope (topS 22), [], []⟩
def dd_quotient : He.DefD := ⟨("quotient", none), "quotient", "quotient", defArgs (topS 23), defBody (topS 23), defScope (topS 23), [], []⟩
def dd_setup_of : He.DefD := ⟨("setup_of", none), "setup_of", "setup_of", defArgs (topS 24), defBody (topS 24), defScope (topS 24), [], []⟩
def dd_is_exponent_claims : He.DefD := ⟨("is_exponent_claims", none), "is_exponent", "is_exponent", defArgs (topS 26), defBody (topS 26), defScope (topS 26), [], []⟩
def dd_are_values : He.DefD := ⟨("are_values", none), "are_values", "are_values", defArgs (topS 28), defBody (topS 28), defScope (topS 28), [], []⟩
def dd_check_values : He.DefD := ⟨("check_values", none), "check_values", "check_values", defArgs (topS 29), defBody (topS 29), defScope (topS 29), [], []⟩
def dd_holds : He.DefD := ⟨("holds", none), "holds", "holds", defArgs (topS 30), defBody (topS 30), defScope (topS 30), [], []⟩
def dd_claim_numbers : He.DefD := ⟨("claim_numbers", none), "claim_numbers", "claim_numbers", defArgs (topS 31), defBody (topS 31), defScope (topS 31), [], []⟩
def dd_traces : He.DefD := ⟨("traces", none), "traces", "traces", defArgs (topS 32), defBody (topS 32), defScope (topS 32), [], []⟩
def dd_choice_numbers : He.DefD := ⟨("choice_numbers", none), "choice_numbers", "choice_numbers", defArgs (topS 34), defBody (topS 34), defScope (topS 34), [], []⟩
def dd_has_form : He.DefD := ⟨("has_form", none), "has_form", "has_form", defArgs (topS 35), defBody (topS 35), defScope (topS 35), [], []⟩
def dd_call_of : He.DefD := ⟨("call_of", none), "call_of", "call_of", defArgs (topS 36), defBody (topS 36), defScope (topS 36), [], []⟩
def dd_check_maker : He.DefD := ⟨("check_maker", none), "check_maker", "check_maker", defArgs (topS 37), defBody (topS 37), defScope (topS 37), [], []⟩
def dd_sum_of_others : He.DefD := ⟨("sum_of_others", none), "sum_of_others", "sum_of_others", defArgs (topS 38), defBody (topS 38), defScope (topS 38), [], []⟩
def dd_make_paper : He.DefD := ⟨("make_paper", none), "make_paper", "make_paper", defArgs (topS 39), defBody (topS 39), defScope (topS 39), [], []⟩
def dd_check_paper : He.DefD := ⟨("check_paper", none), "check_paper", "check_paper", defArgs (topS 40), defBody (topS 40), defScope (topS 40), [], []⟩
def dd_explain_paper : He.DefD := ⟨("explain_paper", none), "explain_paper", "explain_paper", defArgs (topS 41), defBody (topS 41), defScope (topS 41), [], []⟩
def dd_is_pair : He.DefD := ⟨("is_pair", none), "is_pair", "is_pair", defArgs (topS 45), defBody (topS 45), defScope (topS 45), [], []⟩
def dd_index_of : He.DefD := ⟨("index_of", none), "index_of", "index_of", defArgs (topS 46), defBody (topS 46), defScope (topS 46), [], []⟩
def dd_check_set : He.DefD := ⟨("check_set", none), "check_set", "check_set", defArgs (topS 47), defBody (topS 47), defScope (topS 47), [], []⟩
def dd_is_exponent_passes : He.DefD := ⟨("is_exponent_passes", none), "is_exponent", "is_exponent", defArgs (topS 50), defBody (topS 50), defScope (topS 50), [], []⟩
def dd_check_person : He.DefD := ⟨("check_person", none), "check_person", "check_person", defArgs (topS 52), defBody (topS 52), defScope (topS 52), [], []⟩
def dd_plain_mark : He.DefD := ⟨("plain_mark", none), "plain_mark", "plain_mark", defArgs (topS 53), defBody (topS 53), defScope (topS 53), [], []⟩
def dd_mark_of : He.DefD := ⟨("mark_of", none), "mark_of", "mark_of", defArgs (topS 54), defBody (topS 54), defScope (topS 54), [], []⟩
def dd_check_secret : He.DefD := ⟨("check_secret", none), "check_secret", "check_secret", defArgs (topS 56), defBody (topS 56), defScope (topS 56), [], []⟩
def dd_check_exponents : He.DefD := ⟨("check_exponents", none), "check_exponents", "check_exponents", defArgs (topS 57), defBody (topS 57), defScope (topS 57), [], []⟩
def dd_check_blinding : He.DefD := ⟨("check_blinding", none), "check_blinding", "check_blinding", defArgs (topS 58), defBody (topS 58), defScope (topS 58), [], []⟩
def dd_key_of : He.DefD := ⟨("key_of", none), "key_of", "key_of", defArgs (topS 59), defBody (topS 59), defScope (topS 59), [], []⟩
def dd_offer_of : He.DefD := ⟨("offer_of", none), "offer_of", "offer_of", defArgs (topS 60), defBody (topS 60), defScope (topS 60), [], []⟩
def dd_hidden : He.DefD := ⟨("hidden", none), "hidden", "hidden", defArgs (topS 61), defBody (topS 61), defScope (topS 61), [], []⟩
def dd_challenge_for : He.DefD := ⟨("challenge_for", none), "challenge_for", "challenge_for", defArgs (topS 62), defBody (topS 62), defScope (topS 62), [], []⟩
def dd_request_of : He.DefD := ⟨("request_of", none), "request_of", "request_of", defArgs (topS 63), defBody (topS 63), defScope (topS 63), [], []⟩
def dd_grant_of : He.DefD := ⟨("grant_of", none), "grant_of", "grant_of", defArgs (topS 64), defBody (topS 64), defScope (topS 64), [], []⟩
def dd_is_granted : He.DefD := ⟨("is_granted", none), "is_granted", "is_granted", defArgs (topS 65), defBody (topS 65), defScope (topS 65), [], []⟩
def dd_ticket_of : He.DefD := ⟨("ticket_of", none), "ticket_of", "ticket_of", defArgs (topS 66), defBody (topS 66), defScope (topS 66), [], []⟩
def dd_spend_of : He.DefD := ⟨("spend_of", none), "spend_of", "spend_of", defArgs (topS 68), defBody (topS 68), defScope (topS 68), [], []⟩
def dd_is_spend : He.DefD := ⟨("is_spend", none), "is_spend", "is_spend", defArgs (topS 69), defBody (topS 69), defScope (topS 69), [], []⟩
def dd_inner_challenge : He.DefD := ⟨("inner_challenge", none), "inner_challenge", "inner_challenge", defArgs (topS 71), defBody (topS 71), defScope (topS 71), [], []⟩
def dd_is_ticket : He.DefD := ⟨("is_ticket", none), "is_ticket", "is_ticket", defArgs (topS 72), defBody (topS 72), defScope (topS 72), [], []⟩
def dd_blinding_of : He.DefD := ⟨("blinding_of", none), "blinding_of", "blinding_of", defArgs (topS 73), defBody (topS 73), defScope (topS 73), [], []⟩
def dd_explain_ticket : He.DefD := ⟨("explain_ticket", none), "explain_ticket", "explain_ticket", defArgs (topS 74), defBody (topS 74), defScope (topS 74), [], []⟩
def dd_is_gate_name : He.DefD := ⟨("is_gate_name", none), "is_gate_name", "is_gate_name", defArgs (topS 79), defBody (topS 79), defScope (topS 79), [], []⟩
def dd_check_context : He.DefD := ⟨("check_context", none), "check_context", "check_context", defArgs (topS 80), defBody (topS 80), defScope (topS 80), [], []⟩
def dd_stage_numbers : He.DefD := ⟨("stage_numbers", none), "stage_numbers", "stage_numbers", defArgs (topS 81), defBody (topS 81), defScope (topS 81), [], []⟩
def dd_stage_challenge : He.DefD := ⟨("stage_challenge", none), "stage_challenge", "stage_challenge", defArgs (topS 82), defBody (topS 82), defScope (topS 82), [], []⟩
def dd_choice_of : He.DefD := ⟨("choice_of", none), "choice_of", "choice_of", defArgs (topS 83), defBody (topS 83), defScope (topS 83), [], []⟩
def dd_paper_text : He.DefD := ⟨("paper_text", none), "paper_text", "paper_text", defArgs (topS 84), defBody (topS 84), defScope (topS 84), [], []⟩
def dd_make_showing : He.DefD := ⟨("make_showing", none), "make_showing", "make_showing", defArgs (topS 85), defBody (topS 85), defScope (topS 85), [], []⟩
def dd_check_showing : He.DefD := ⟨("check_showing", none), "check_showing", "check_showing", defArgs (topS 86), defBody (topS 86), defScope (topS 86), [], []⟩
def dd_explain_showing : He.DefD := ⟨("explain_showing", none), "explain_showing", "explain_showing", defArgs (topS 87), defBody (topS 87), defScope (topS 87), [], []⟩
def dd__law_row : He.DefD := ⟨("_law_row", none), "_law_row", "_law_row", defArgs (topS 89), defBody (topS 89), defScope (topS 89), [], []⟩
def dd__law_at : He.DefD := ⟨("_law_at", none), "_law_at", "_law_at", defArgs (topS 90), defBody (topS 90), defScope (topS 90), [], []⟩
def dd__law_setup : He.DefD := ⟨("_law_setup", none), "_law_setup", "_law_setup", defArgs (topS 91), defBody (topS 91), defScope (topS 91), [], []⟩
def dd__law_person : He.DefD := ⟨("_law_person", none), "_law_person", "_law_person", defArgs (topS 92), defBody (topS 92), defScope (topS 92), [], []⟩
def dd__law_session : He.DefD := ⟨("_law_session", none), "_law_session", "_law_session", defArgs (topS 93), defBody (topS 93), defScope (topS 93), [], []⟩
def dd__law_pairs : He.DefD := ⟨("_law_pairs", none), "_law_pairs", "_law_pairs", defArgs (topS 94), defBody (topS 94), defScope (topS 94), [], []⟩
def dd__law_noise : He.DefD := ⟨("_law_noise", none), "_law_noise", "_law_noise", defArgs (topS 95), defBody (topS 95), defScope (topS 95), [], []⟩
def dd__law_replayed : He.DefD := ⟨("_law_replayed", none), "_law_replayed", "_law_replayed", defArgs (topS 96), defBody (topS 96), defScope (topS 96), [], []⟩
def dd__law_varied : He.DefD := ⟨("_law_varied", none), "_law_varied", "_law_varied", defArgs (topS 97), defBody (topS 97), defScope (topS 97), [], []⟩
def dd_law : He.DefD := ⟨("law", none), "law", "law", defArgs (topS 98), defBody (topS 98), defScope (topS 98), [], []⟩
def fn : List He.DefD := [dd_coin, dd_challenge, dd_joined_text, dd_challenge_of, dd_raised, dd_is_element, dd_check_element, dd_power, dd_product, dd_product_of_powers, dd_inverse, dd_logarithm, dd_quotient, dd_setup_of, dd_is_exponent_claims, dd_are_values, dd_check_values, dd_holds, dd_claim_numbers, dd_traces, dd_choice_numbers, dd_has_form, dd_call_of, dd_check_maker, dd_sum_of_others, dd_make_paper, dd_check_paper, dd_explain_paper, dd_is_pair, dd_index_of, dd_check_set, dd_is_exponent_passes, dd_check_person, dd_plain_mark, dd_mark_of, dd_check_secret, dd_check_exponents, dd_check_blinding, dd_key_of, dd_offer_of] ++ [dd_hidden, dd_challenge_for, dd_request_of, dd_grant_of, dd_is_granted, dd_ticket_of, dd_spend_of, dd_is_spend, dd_inner_challenge, dd_is_ticket, dd_blinding_of, dd_explain_ticket, dd_is_gate_name, dd_check_context, dd_stage_numbers, dd_stage_challenge, dd_choice_of, dd_paper_text, dd_make_showing, dd_check_showing, dd_explain_showing, dd__law_row, dd__law_at, dd__law_setup, dd__law_person, dd__law_session, dd__law_pairs, dd__law_noise, dd__law_replayed, dd__law_varied, dd_law]
def fa : List He.Fa := [.glo "coin", .glo "challenge", .glo "joined_text", .glo "challenge_of", .glo "raised", .glo "is_element", .glo "check_element", .glo "power", .glo "product", .glo "product_of_powers", .glo "inverse", .glo "logarithm", .glo "quotient", .glo "setup_of", .glo "is_exponent_claims", .glo "are_values", .glo "check_values", .glo "holds", .glo "claim_numbers", .glo "traces", .glo "choice_numbers", .glo "has_form", .glo "call_of", .glo "check_maker", .glo "sum_of_others", .glo "make_paper", .glo "check_paper", .glo "explain_paper", .glo "is_pair", .glo "index_of", .glo "check_set", .glo "is_exponent_passes", .glo "check_person", .glo "plain_mark", .glo "mark_of", .glo "check_secret", .glo "check_exponents", .glo "check_blinding", .glo "key_of", .glo "offer_of"] ++ [.glo "hidden", .glo "challenge_for", .glo "request_of", .glo "grant_of", .glo "is_granted", .glo "ticket_of", .glo "spend_of", .glo "is_spend", .glo "inner_challenge", .glo "is_ticket", .glo "blinding_of", .glo "explain_ticket", .glo "is_gate_name", .glo "check_context", .glo "stage_numbers", .glo "stage_challenge", .glo "choice_of", .glo "paper_text", .glo "make_showing", .glo "check_showing", .glo "explain_showing", .glo "_law_row", .glo "_law_at", .glo "_law_setup", .glo "_law_person", .glo "_law_session", .glo "_law_pairs", .glo "_law_noise", .glo "_law_replayed", .glo "_law_varied", .glo "law"] ++ [.free "len", .free "all", .free "sum", .free "zip", .free "enumerate", .free "range", .free "abs", .free "int", .free "str", .free "tuple", .free "list", .free "ord", .free "isinstance", .int "MODULUS" 2147483647, .int "SIDES" 1000000, .int "BASES" 5, .int "AGES" 5, .int "ZONES" 5, .int "GREATEST" 4, .int "MAX_GATE" 6, .int "MAX_MOMENT" 999999, .str "SMALL" "abcdefghijklmnopqrstuvwxyz", .glo "CloakError", .glo "NotAllowed", .glo "BadPaper", .exc "NotAllowed", .exc "BadPaper", .exm "NotAllowed" "NotAllowed" true, .exm "NotAllowed" "CloakError" true, .exm "BadPaper" "CloakError" true]
def loose : List Str := (["CloakError", "NotAllowed", "BadForm", "BadPaper", "Missing", "MODULUS", "SIDES", "BASES", "AGES", "ZONES", "GREATEST", "MAX_GATE", "MAX_MOMENT", "SMALL", "is_exponent_claims", "is_exponent_passes", "coin", "challenge", "joined_text", "challenge_of", "raised", "is_element", "check_element", "power", "product", "product_of_powers", "inverse", "logarithm", "quotient", "setup_of"] : List Str) ++ (["is_exponent", "are_values", "check_values", "holds", "claim_numbers", "traces", "choice_numbers", "has_form", "call_of", "check_maker", "sum_of_others", "make_paper", "check_paper", "explain_paper", "is_pair", "index_of", "check_set", "check_person", "plain_mark", "mark_of", "check_secret", "check_exponents", "check_blinding", "key_of", "offer_of", "hidden", "challenge_for", "request_of", "grant_of", "is_granted"] : List Str) ++ (["ticket_of", "spend_of", "is_spend", "inner_challenge", "is_ticket", "blinding_of", "explain_ticket", "is_gate_name", "check_context", "stage_numbers", "stage_challenge", "choice_of", "paper_text", "make_showing", "check_showing", "explain_showing", "_law_row", "_law_at", "_law_setup", "_law_person", "_law_session", "_law_pairs", "_law_noise", "_law_replayed", "_law_varied"] : List Str)
abbrev R : PySem.W.OpenRow := PySem.W.OpenLaw.row PySem.Challenge.rw_cloak_k52_whole_showings_explained
abbrev hk : PySem.W.Hook := He.hookD 4 fa fn
def ob (s : PySem.W.SharedT) : He.AlD := He.obsDG 4 fa fn (HandSHeadRun.getT s)
theorem ob_eq (s : PySem.W.SharedT) : ob s = hk.obs s.abs := He.obsDG_eq (HandSHeadRun.getT_eq s)
theorem run (w : World) : HandSHeadRun.RunEq R (PySem.W.view R.prog [98]) hk ob 6000 loose w := by
  intro os
  kernel_rfl
end Ck

/-! All defs, from the head's facts; the law. -/
namespace Ck
open PySem PySem.Spec PyProof.Rows L2
/-- a law whose def may raise, by facts -/
theorem walk_ofW {law : PySem.W.OpenLaw} {most lv : Nat} {vw : Program} {lo : List Str} {XX : (Str → Option Value) → Heap → Prop}
    {YY : World → Heap → Prop} {df : DefRec} {CC : World → CXT} {nm : Str}
    (h1 : law.most = some most) (h2 : most ≤ sizeLine) (h3 : df.params.defaults = []) (h4 : Room lv callerA)
    (h5 : ∀ (w : World) (tab : Str → Option Value) (at_ : Addr) (hp : Heap), YY w hp →
      hp.Ns mainGlobals tab → tab df.name = some (.ref at_) →
      ∃ (K : PySem.W.Frag) (data : FuncData) (prm : Sp), K.In hp ∧
        (∀ (s : Shared) (u : Value), BindsTo s data ⟨[u], []⟩ [(nm, u)]) ∧
        (∀ (H : Hp) (p : Addr) (ns : List Int), ns.length ≤ most → Only H → SqL K H p (ns.map V.int) →
          prm [.ref p] H (fun v _ => v = .bl true) fun _ _ _ => False) ∧
        ∀ bs : Heap, K.In bs → bs.Ns mainGlobals tab → FnOk law.prog w K tab bs (CC w) lv at_ data [nm] prm)
    (h6 : ∀ (w : World) (H : Hp) (s : Shared) (u : Value) (s' : Shared), CC w [] H s (fun _ _ _ => False) u s' → False) :
    PySem.W.WalkO vw lo XX YY law.row.toRowW df [] (fun f vs => PySem.call f vs) := by
  refine Att.attach_call h1 h3 fun w s₀ s₁ tab mb at_ o pm cd doc p vs ns G Y ho hd hcd hmg hobj hints hlen hg => ?_
  obtain ⟨K, data, prm, KX, hb, hsp, hF⟩ := h5 w tab at_ _ Y G.T.g hmg
  exact law_call KX G.T.g G.T.b G.T.builtins G.T.nolimit hg hobj hints (Nat.le_trans hlen h2) h4 hF hb
    (fun H hO hS => hsp H p ns hlen hO hS) fun H u s' => h6 w H s₁ u s'
section
variable {P : Program} {w : World} {K : PySem.W.Frag} {h : Heap} {mg : Str → Option Value}
theorem tx (X : K.In h) (G : h.Ns mainGlobals mg) (c : He.SaysD fa fn K) : Tx K mg where
  fLen := He.free_ok X G (c.fact 71 (f := .free "len") rfl)
  fAll := He.free_ok X G (c.fact 72 (f := .free "all") rfl)
  fSum := He.free_ok X G (c.fact 73 (f := .free "sum") rfl)
  fZip := He.free_ok X G (c.fact 74 (f := .free "zip") rfl)
  fEnumerate := He.free_ok X G (c.fact 75 (f := .free "enumerate") rfl)
  fRange := He.free_ok X G (c.fact 76 (f := .free "range") rfl)
  fAbs := He.free_ok X G (c.fact 77 (f := .free "abs") rfl)
  fInt := He.free_ok X G (c.fact 78 (f := .free "int") rfl)
  fStr := He.free_ok X G (c.fact 79 (f := .free "str") rfl)
  fTuple := He.free_ok X G (c.fact 80 (f := .free "tuple") rfl)
  fList := He.free_ok X G (c.fact 81 (f := .free "list") rfl)
  fOrd := He.free_ok X G (c.fact 82 (f := .free "ord") rfl)
  fIsinstance := He.free_ok X G (c.fact 83 (f := .free "isinstance") rfl)
  gMODULUS := He.int_ok X G (c.fact 84 (f := .int "MODULUS" 2147483647) rfl)
  gSIDES := He.int_ok X G (c.fact 85 (f := .int "SIDES" 1000000) rfl)
  gBASES := He.int_ok X G (c.fact 86 (f := .int "BASES" 5) rfl)
  gAGES := He.int_ok X G (c.fact 87 (f := .int "AGES" 5) rfl)
  gZONES := He.int_ok X G (c.fact 88 (f := .int "ZONES" 5) rfl)
  gGREATEST := He.int_ok X G (c.fact 89 (f := .int "GREATEST" 4) rfl)
  gMAX_GATE := He.int_ok X G (c.fact 90 (f := .int "MAX_GATE" 6) rfl)
  gMAX_MOMENT := He.int_ok X G (c.fact 91 (f := .int "MAX_MOMENT" 999999) rfl)
  gSMALL := He.str_ok X G (c.fact 92 (f := .str "SMALL" "abcdefghijklmnopqrstuvwxyz") rfl)
  gCE := He.glo_ok X G (c.fact 93 (f := .glo "CloakError") rfl)
  gNA := He.glo_ok X G (c.fact 94 (f := .glo "NotAllowed") rfl)
  gBP := He.glo_ok X G (c.fact 95 (f := .glo "BadPaper") rfl)
  xNA := He.exc_ok (c.fact 96 (f := .exc "NotAllowed") rfl)
  xBP := He.exc_ok (c.fact 97 (f := .exc "BadPaper") rfl)
  mNN := He.exm_ok (c.fact 98 (f := .exm "NotAllowed" "NotAllowed" true) rfl)
  mNC := He.exm_ok (c.fact 99 (f := .exm "NotAllowed" "CloakError" true) rfl)
  mBC := He.exm_ok (c.fact 100 (f := .exm "BadPaper" "CloakError" true) rfl)
theorem dn_coin (X : K.In h) (G : h.Ns mainGlobals mg) (c : He.SaysD fa fn K) : Dn K mg "coin" "coin" (topS 9) := by
  obtain ⟨fd, F⟩ := c.def_ 0 (d := dd_coin) rfl
  exact ⟨_, fd, F, He.glo_ok X G (c.fact 0 (f := .glo "coin") rfl)⟩
theorem dn_challenge (X : K.In h) (G : h.Ns mainGlobals mg) (c : He.SaysD fa fn K) : Dn K mg "challenge" "challenge" (topS 10) := by
  obtain ⟨fd, F⟩ := c.def_ 1 (d := dd_challenge) rfl
  exact ⟨_, fd, F, He.glo_ok X G (c.fact 1 (f := .glo "challenge") rfl)⟩
theorem dn_joined_text (X : K.In h) (G : h.Ns mainGlobals mg) (c : He.SaysD fa fn K) : Dn K mg "joined_text" "joined_text" (topS 11) := by
  obtain ⟨fd, F⟩ := c.def_ 2 (d := dd_joined_text) rfl
  exact ⟨_, fd, F, He.glo_ok X G (c.fact 2 (f := .glo "joined_text") rfl)⟩
theorem dn_challenge_of (X : K.In h) (G : h.Ns mainGlobals mg) (c : He.SaysD fa fn K) : Dn K mg "challenge_of" "challenge_of" (topS 12) := by
  obtain ⟨fd, F⟩ := c.def_ 3 (d := dd_challenge_of) rfl
  exact ⟨_, fd, F, He.glo_ok X G (c.fact 3 (f := .glo "challenge_of") rfl)⟩
theorem dn_raised (X : K.In h) (G : h.Ns mainGlobals mg) (c : He.SaysD fa fn K) : Dn K mg "raised" "raised" (topS 15) := by
  obtain ⟨fd, F⟩ := c.def_ 4 (d := dd_raised) rfl
  exact ⟨_, fd, F, He.glo_ok X G (c.fact 4 (f := .glo "raised") rfl)⟩
theorem dn_is_element (X : K.In h) (G : h.Ns mainGlobals mg) (c : He.SaysD fa fn K) : Dn K mg "is_element" "is_element" (topS 16) := by
  obtain ⟨fd, F⟩ := c.def_ 5 (d := dd_is_element) rfl
  exact ⟨_, fd, F, He.glo_ok X G (c.fact 5 (f := .glo "is_element") rfl)⟩
theorem dn_check_element (X : K.In h) (G : h.Ns mainGlobals mg) (c : He.SaysD fa fn K) : Dn K mg "check_element" "check_element" (topS 17) := by
  obtain ⟨fd, F⟩ := c.def_ 6 (d := dd_check_element) rfl
  exact ⟨_, fd, F, He.glo_ok X G (c.fact 6 (f := .glo "check_element") rfl)⟩
theorem dn_power (X : K.In h) (G : h.Ns mainGlobals mg) (c : He.SaysD fa fn K) : Dn K mg "power" "power" (topS 18) := by
  obtain ⟨fd, F⟩ := c.def_ 7 (d := dd_power) rfl
  exact ⟨_, fd, F, He.glo_ok X G (c.fact 7 (f := .glo "power") rfl)⟩
theorem dn_product (X : K.In h) (G : h.Ns mainGlobals mg) (c : He.SaysD fa fn K) : Dn K mg "product" "product" (topS 19) := by
  obtain ⟨fd, F⟩ := c.def_ 8 (d := dd_product) rfl
  exact ⟨_, fd, F, He.glo_ok X G (c.fact 8 (f := .glo "product") rfl)⟩
theorem dn_product_of_powers (X : K.In h) (G : h.Ns mainGlobals mg) (c : He.SaysD fa fn K) : Dn K mg "product_of_powers" "product_of_powers" (topS 20) := by
  obtain ⟨fd, F⟩ := c.def_ 9 (d := dd_product_of_powers) rfl
  exact ⟨_, fd, F, He.glo_ok X G (c.fact 9 (f := .glo "product_of_powers") rfl)⟩
theorem dn_inverse (X : K.In h) (G : h.Ns mainGlobals mg) (c : He.SaysD fa fn K) : Dn K mg "inverse" "inverse" (topS 21) := by
  obtain ⟨fd, F⟩ := c.def_ 10 (d := dd_inverse) rfl
  exact ⟨_, fd, F, He.glo_ok X G (c.fact 10 (f := .glo "inverse") rfl)⟩
theorem dn_logarithm (X : K.In h) (G : h.Ns mainGlobals mg) (c : He.SaysD fa fn K) : Dn K mg "logarithm" "logarithm" (topS 22) := by
  obtain ⟨fd, F⟩ := c.def_ 11 (d := dd_logarithm) rfl
  exact ⟨_, fd, F, He.glo_ok X G (c.fact 11 (f := .glo "logarithm") rfl)⟩
theorem dn_quotient (X : K.In h) (G : h.Ns mainGlobals mg) (c : He.SaysD fa fn K) : Dn K mg "quotient" "quotient" (topS 23) := by
  obtain ⟨fd, F⟩ := c.def_ 12 (d := dd_quotient) rfl
  exact ⟨_, fd, F, He.glo_ok X G (c.fact 12 (f := .glo "quotient") rfl)⟩
theorem dn_setup_of (X : K.In h) (G : h.Ns mainGlobals mg) (c : He.SaysD fa fn K) : Dn K mg "setup_of" "setup_of" (topS 24) := by
  obtain ⟨fd, F⟩ := c.def_ 13 (d := dd_setup_of) rfl
  exact ⟨_, fd, F, He.glo_ok X G (c.fact 13 (f := .glo "setup_of") rfl)⟩
theorem dn_is_exponent_claims (X : K.In h) (G : h.Ns mainGlobals mg) (c : He.SaysD fa fn K) : Dn K mg "is_exponent_claims" "is_exponent" (topS 26) := by
  obtain ⟨fd, F⟩ := c.def_ 14 (d := dd_is_exponent_claims) rfl
  exact ⟨_, fd, F, He.glo_ok X G (c.fact 14 (f := .glo "is_exponent_claims") rfl)⟩
theorem dn_are_values (X : K.In h) (G : h.Ns mainGlobals mg) (c : He.SaysD fa fn K) : Dn K mg "are_values" "are_values" (topS 28) := by
  obtain ⟨fd, F⟩ := c.def_ 15 (d := dd_are_values) rfl
  exact ⟨_, fd, F, He.glo_ok X G (c.fact 15 (f := .glo "are_values") rfl)⟩
theorem dn_check_values (X : K.In h) (G : h.Ns mainGlobals mg) (c : He.SaysD fa fn K) : Dn K mg "check_values" "check_values" (topS 29) := by
  obtain ⟨fd, F⟩ := c.def_ 16 (d := dd_check_values) rfl
  exact ⟨_, fd, F, He.glo_ok X G (c.fact 16 (f := .glo "check_values") rfl)⟩
theorem dn_holds (X : K.In h) (G : h.Ns mainGlobals mg) (c : He.SaysD fa fn K) : Dn K mg "holds" "holds" (topS 30) := by
  obtain ⟨fd, F⟩ := c.def_ 17 (d := dd_holds) rfl
  exact ⟨_, fd, F, He.glo_ok X G (c.fact 17 (f := .glo "holds") rfl)⟩
theorem dn_claim_numbers (X : K.In h) (G : h.Ns mainGlobals mg) (c : He.SaysD fa fn K) : Dn K mg "claim_numbers" "claim_numbers" (topS 31) := by
  obtain ⟨fd, F⟩ := c.def_ 18 (d := dd_claim_numbers) rfl
  exact ⟨_, fd, F, He.glo_ok X G (c.fact 18 (f := .glo "claim_numbers") rfl)⟩
theorem dn_traces (X : K.In h) (G : h.Ns mainGlobals mg) (c : He.SaysD fa fn K) : Dn K mg "traces" "traces" (topS 32) := by
  obtain ⟨fd, F⟩ := c.def_ 19 (d := dd_traces) rfl
  exact ⟨_, fd, F, He.glo_ok X G (c.fact 19 (f := .glo "traces") rfl)⟩
theorem dn_choice_numbers (X : K.In h) (G : h.Ns mainGlobals mg) (c : He.SaysD fa fn K) : Dn K mg "choice_numbers" "choice_numbers" (topS 34) := by
  obtain ⟨fd, F⟩ := c.def_ 20 (d := dd_choice_numbers) rfl
  exact ⟨_, fd, F, He.glo_ok X G (c.fact 20 (f := .glo "choice_numbers") rfl)⟩
theorem dn_has_form (X : K.In h) (G : h.Ns mainGlobals mg) (c : He.SaysD fa fn K) : Dn K mg "has_form" "has_form" (topS 35) := by
  obtain ⟨fd, F⟩ := c.def_ 21 (d := dd_has_form) rfl
  exact ⟨_, fd, F, He.glo_ok X G (c.fact 21 (f := .glo "has_form") rfl)⟩
theorem dn_call_of (X : K.In h) (G : h.Ns mainGlobals mg) (c : He.SaysD fa fn K) : Dn K mg "call_of" "call_of" (topS 36) := by
  obtain ⟨fd, F⟩ := c.def_ 22 (d := dd_call_of) rfl
  exact ⟨_, fd, F, He.glo_ok X G (c.fact 22 (f := .glo "call_of") rfl)⟩
theorem dn_check_maker (X : K.In h) (G : h.Ns mainGlobals mg) (c : He.SaysD fa fn K) : Dn K mg "check_maker" "check_maker" (topS 37) := by
  obtain ⟨fd, F⟩ := c.def_ 23 (d := dd_check_maker) rfl
  exact ⟨_, fd, F, He.glo_ok X G (c.fact 23 (f := .glo "check_maker") rfl)⟩
theorem dn_sum_of_others (X : K.In h) (G : h.Ns mainGlobals mg) (c : He.SaysD fa fn K) : Dn K mg "sum_of_others" "sum_of_others" (topS 38) := by
  obtain ⟨fd, F⟩ := c.def_ 24 (d := dd_sum_of_others) rfl
  exact ⟨_, fd, F, He.glo_ok X G (c.fact 24 (f := .glo "sum_of_others") rfl)⟩
theorem dn_make_paper (X : K.In h) (G : h.Ns mainGlobals mg) (c : He.SaysD fa fn K) : Dn K mg "make_paper" "make_paper" (topS 39) := by
  obtain ⟨fd, F⟩ := c.def_ 25 (d := dd_make_paper) rfl
  exact ⟨_, fd, F, He.glo_ok X G (c.fact 25 (f := .glo "make_paper") rfl)⟩
theorem dn_check_paper (X : K.In h) (G : h.Ns mainGlobals mg) (c : He.SaysD fa fn K) : Dn K mg "check_paper" "check_paper" (topS 40) := by
  obtain ⟨fd, F⟩ := c.def_ 26 (d := dd_check_paper) rfl
  exact ⟨_, fd, F, He.glo_ok X G (c.fact 26 (f := .glo "check_paper") rfl)⟩
theorem dn_explain_paper (X : K.In h) (G : h.Ns mainGlobals mg) (c : He.SaysD fa fn K) : Dn K mg "explain_paper" "explain_paper" (topS 41) := by
  obtain ⟨fd, F⟩ := c.def_ 27 (d := dd_explain_paper) rfl
  exact ⟨_, fd, F, He.glo_ok X G (c.fact 27 (f := .glo "explain_paper") rfl)⟩
theorem dn_is_pair (X : K.In h) (G : h.Ns mainGlobals mg) (c : He.SaysD fa fn K) : Dn K mg "is_pair" "is_pair" (topS 45) := by
  obtain ⟨fd, F⟩ := c.def_ 28 (d := dd_is_pair) rfl
  exact ⟨_, fd, F, He.glo_ok X G (c.fact 28 (f := .glo "is_pair") rfl)⟩
theorem dn_index_of (X : K.In h) (G : h.Ns mainGlobals mg) (c : He.SaysD fa fn K) : Dn K mg "index_of" "index_of" (topS 46) := by
  obtain ⟨fd, F⟩ := c.def_ 29 (d := dd_index_of) rfl
  exact ⟨_, fd, F, He.glo_ok X G (c.fact 29 (f := .glo "index_of") rfl)⟩
theorem dn_check_set (X : K.In h) (G : h.Ns mainGlobals mg) (c : He.SaysD fa fn K) : Dn K mg "check_set" "check_set" (topS 47) := by
  obtain ⟨fd, F⟩ := c.def_ 30 (d := dd_check_set) rfl
  exact ⟨_, fd, F, He.glo_ok X G (c.fact 30 (f := .glo "check_set") rfl)⟩
theorem dn_is_exponent_passes (X : K.In h) (G : h.Ns mainGlobals mg) (c : He.SaysD fa fn K) : Dn K mg "is_exponent_passes" "is_exponent" (topS 50) := by
  obtain ⟨fd, F⟩ := c.def_ 31 (d := dd_is_exponent_passes) rfl
  exact ⟨_, fd, F, He.glo_ok X G (c.fact 31 (f := .glo "is_exponent_passes") rfl)⟩
theorem dn_check_person (X : K.In h) (G : h.Ns mainGlobals mg) (c : He.SaysD fa fn K) : Dn K mg "check_person" "check_person" (topS 52) := by
  obtain ⟨fd, F⟩ := c.def_ 32 (d := dd_check_person) rfl
  exact ⟨_, fd, F, He.glo_ok X G (c.fact 32 (f := .glo "check_person") rfl)⟩
theorem dn_plain_mark (X : K.In h) (G : h.Ns mainGlobals mg) (c : He.SaysD fa fn K) : Dn K mg "plain_mark" "plain_mark" (topS 53) := by
  obtain ⟨fd, F⟩ := c.def_ 33 (d := dd_plain_mark) rfl
  exact ⟨_, fd, F, He.glo_ok X G (c.fact 33 (f := .glo "plain_mark") rfl)⟩
theorem dn_mark_of (X : K.In h) (G : h.Ns mainGlobals mg) (c : He.SaysD fa fn K) : Dn K mg "mark_of" "mark_of" (topS 54) := by
  obtain ⟨fd, F⟩ := c.def_ 34 (d := dd_mark_of) rfl
  exact ⟨_, fd, F, He.glo_ok X G (c.fact 34 (f := .glo "mark_of") rfl)⟩
theorem dn_check_secret (X : K.In h) (G : h.Ns mainGlobals mg) (c : He.SaysD fa fn K) : Dn K mg "check_secret" "check_secret" (topS 56) := by
  obtain ⟨fd, F⟩ := c.def_ 35 (d := dd_check_secret) rfl
  exact ⟨_, fd, F, He.glo_ok X G (c.fact 35 (f := .glo "check_secret") rfl)⟩
theorem dn_check_exponents (X : K.In h) (G : h.Ns mainGlobals mg) (c : He.SaysD fa fn K) : Dn K mg "check_exponents" "check_exponents" (topS 57) := by
  obtain ⟨fd, F⟩ := c.def_ 36 (d := dd_check_exponents) rfl
  exact ⟨_, fd, F, He.glo_ok X G (c.fact 36 (f := .glo "check_exponents") rfl)⟩
theorem dn_check_blinding (X : K.In h) (G : h.Ns mainGlobals mg) (c : He.SaysD fa fn K) : Dn K mg "check_blinding" "check_blinding" (topS 58) := by
  obtain ⟨fd, F⟩ := c.def_ 37 (d := dd_check_blinding) rfl
  exact ⟨_, fd, F, He.glo_ok X G (c.fact 37 (f := .glo "check_blinding") rfl)⟩
theorem dn_key_of (X : K.In h) (G : h.Ns mainGlobals mg) (c : He.SaysD fa fn K) : Dn K mg "key_of" "key_of" (topS 59) := by
  obtain ⟨fd, F⟩ := c.def_ 38 (d := dd_key_of) rfl
  exact ⟨_, fd, F, He.glo_ok X G (c.fact 38 (f := .glo "key_of") rfl)⟩
theorem dn_offer_of (X : K.In h) (G : h.Ns mainGlobals mg) (c : He.SaysD fa fn K) : Dn K mg "offer_of" "offer_of" (topS 60) := by
  obtain ⟨fd, F⟩ := c.def_ 39 (d := dd_offer_of) rfl
  exact ⟨_, fd, F, He.glo_ok X G (c.fact 39 (f := .glo "offer_of") rfl)⟩
theorem dn_hidden (X : K.In h) (G : h.Ns mainGlobals mg) (c : He.SaysD fa fn K) : Dn K mg "hidden" "hidden" (topS 61) := by
  obtain ⟨fd, F⟩ := c.def_ 40 (d := dd_hidden) rfl
  exact ⟨_, fd, F, He.glo_ok X G (c.fact 40 (f := .glo "hidden") rfl)⟩
theorem dn_challenge_for (X : K.In h) (G : h.Ns mainGlobals mg) (c : He.SaysD fa fn K) : Dn K mg "challenge_for" "challenge_for" (topS 62) := by
  obtain ⟨fd, F⟩ := c.def_ 41 (d := dd_challenge_for) rfl
  exact ⟨_, fd, F, He.glo_ok X G (c.fact 41 (f := .glo "challenge_for") rfl)⟩
theorem dn_request_of (X : K.In h) (G : h.Ns mainGlobals mg) (c : He.SaysD fa fn K) : Dn K mg "request_of" "request_of" (topS 63) := by
  obtain ⟨fd, F⟩ := c.def_ 42 (d := dd_request_of) rfl
  exact ⟨_, fd, F, He.glo_ok X G (c.fact 42 (f := .glo "request_of") rfl)⟩
theorem dn_grant_of (X : K.In h) (G : h.Ns mainGlobals mg) (c : He.SaysD fa fn K) : Dn K mg "grant_of" "grant_of" (topS 64) := by
  obtain ⟨fd, F⟩ := c.def_ 43 (d := dd_grant_of) rfl
  exact ⟨_, fd, F, He.glo_ok X G (c.fact 43 (f := .glo "grant_of") rfl)⟩
theorem dn_is_granted (X : K.In h) (G : h.Ns mainGlobals mg) (c : He.SaysD fa fn K) : Dn K mg "is_granted" "is_granted" (topS 65) := by
  obtain ⟨fd, F⟩ := c.def_ 44 (d := dd_is_granted) rfl
  exact ⟨_, fd, F, He.glo_ok X G (c.fact 44 (f := .glo "is_granted") rfl)⟩
theorem dn_ticket_of (X : K.In h) (G : h.Ns mainGlobals mg) (c : He.SaysD fa fn K) : Dn K mg "ticket_of" "ticket_of" (topS 66) := by
  obtain ⟨fd, F⟩ := c.def_ 45 (d := dd_ticket_of) rfl
  exact ⟨_, fd, F, He.glo_ok X G (c.fact 45 (f := .glo "ticket_of") rfl)⟩
theorem dn_spend_of (X : K.In h) (G : h.Ns mainGlobals mg) (c : He.SaysD fa fn K) : Dn K mg "spend_of" "spend_of" (topS 68) := by
  obtain ⟨fd, F⟩ := c.def_ 46 (d := dd_spend_of) rfl
  exact ⟨_, fd, F, He.glo_ok X G (c.fact 46 (f := .glo "spend_of") rfl)⟩
theorem dn_is_spend (X : K.In h) (G : h.Ns mainGlobals mg) (c : He.SaysD fa fn K) : Dn K mg "is_spend" "is_spend" (topS 69) := by
  obtain ⟨fd, F⟩ := c.def_ 47 (d := dd_is_spend) rfl
  exact ⟨_, fd, F, He.glo_ok X G (c.fact 47 (f := .glo "is_spend") rfl)⟩
theorem dn_inner_challenge (X : K.In h) (G : h.Ns mainGlobals mg) (c : He.SaysD fa fn K) : Dn K mg "inner_challenge" "inner_challenge" (topS 71) := by
  obtain ⟨fd, F⟩ := c.def_ 48 (d := dd_inner_challenge) rfl
  exact ⟨_, fd, F, He.glo_ok X G (c.fact 48 (f := .glo "inner_challenge") rfl)⟩
theorem dn_is_ticket (X : K.In h) (G : h.Ns mainGlobals mg) (c : He.SaysD fa fn K) : Dn K mg "is_ticket" "is_ticket" (topS 72) := by
  obtain ⟨fd, F⟩ := c.def_ 49 (d := dd_is_ticket) rfl
  exact ⟨_, fd, F, He.glo_ok X G (c.fact 49 (f := .glo "is_ticket") rfl)⟩
theorem dn_blinding_of (X : K.In h) (G : h.Ns mainGlobals mg) (c : He.SaysD fa fn K) : Dn K mg "blinding_of" "blinding_of" (topS 73) := by
  obtain ⟨fd, F⟩ := c.def_ 50 (d := dd_blinding_of) rfl
  exact ⟨_, fd, F, He.glo_ok X G (c.fact 50 (f := .glo "blinding_of") rfl)⟩
theorem dn_explain_ticket (X : K.In h) (G : h.Ns mainGlobals mg) (c : He.SaysD fa fn K) : Dn K mg "explain_ticket" "explain_ticket" (topS 74) := by
  obtain ⟨fd, F⟩ := c.def_ 51 (d := dd_explain_ticket) rfl
  exact ⟨_, fd, F, He.glo_ok X G (c.fact 51 (f := .glo "explain_ticket") rfl)⟩
theorem dn_is_gate_name (X : K.In h) (G : h.Ns mainGlobals mg) (c : He.SaysD fa fn K) : Dn K mg "is_gate_name" "is_gate_name" (topS 79) := by
  obtain ⟨fd, F⟩ := c.def_ 52 (d := dd_is_gate_name) rfl
  exact ⟨_, fd, F, He.glo_ok X G (c.fact 52 (f := .glo "is_gate_name") rfl)⟩
theorem dn_check_context (X : K.In h) (G : h.Ns mainGlobals mg) (c : He.SaysD fa fn K) : Dn K mg "check_context" "check_context" (topS 80) := by
  obtain ⟨fd, F⟩ := c.def_ 53 (d := dd_check_context) rfl
  exact ⟨_, fd, F, He.glo_ok X G (c.fact 53 (f := .glo "check_context") rfl)⟩
theorem dn_stage_numbers (X : K.In h) (G : h.Ns mainGlobals mg) (c : He.SaysD fa fn K) : Dn K mg "stage_numbers" "stage_numbers" (topS 81) := by
  obtain ⟨fd, F⟩ := c.def_ 54 (d := dd_stage_numbers) rfl
  exact ⟨_, fd, F, He.glo_ok X G (c.fact 54 (f := .glo "stage_numbers") rfl)⟩
theorem dn_stage_challenge (X : K.In h) (G : h.Ns mainGlobals mg) (c : He.SaysD fa fn K) : Dn K mg "stage_challenge" "stage_challenge" (topS 82) := by
  obtain ⟨fd, F⟩ := c.def_ 55 (d := dd_stage_challenge) rfl
  exact ⟨_, fd, F, He.glo_ok X G (c.fact 55 (f := .glo "stage_challenge") rfl)⟩
theorem dn_choice_of (X : K.In h) (G : h.Ns mainGlobals mg) (c : He.SaysD fa fn K) : Dn K mg "choice_of" "choice_of" (topS 83) := by
  obtain ⟨fd, F⟩ := c.def_ 56 (d := dd_choice_of) rfl
  exact ⟨_, fd, F, He.glo_ok X G (c.fact 56 (f := .glo "choice_of") rfl)⟩
theorem dn_paper_text (X : K.In h) (G : h.Ns mainGlobals mg) (c : He.SaysD fa fn K) : Dn K mg "paper_text" "paper_text" (topS 84) := by
  obtain ⟨fd, F⟩ := c.def_ 57 (d := dd_paper_text) rfl
  exact ⟨_, fd, F, He.glo_ok X G (c.fact 57 (f := .glo "paper_text") rfl)⟩
theorem dn_make_showing (X : K.In h) (G : h.Ns mainGlobals mg) (c : He.SaysD fa fn K) : Dn K mg "make_showing" "make_showing" (topS 85) := by
  obtain ⟨fd, F⟩ := c.def_ 58 (d := dd_make_showing) rfl
  exact ⟨_, fd, F, He.glo_ok X G (c.fact 58 (f := .glo "make_showing") rfl)⟩
theorem dn_check_showing (X : K.In h) (G : h.Ns mainGlobals mg) (c : He.SaysD fa fn K) : Dn K mg "check_showing" "check_showing" (topS 86) := by
  obtain ⟨fd, F⟩ := c.def_ 59 (d := dd_check_showing) rfl
  exact ⟨_, fd, F, He.glo_ok X G (c.fact 59 (f := .glo "check_showing") rfl)⟩
theorem dn_explain_showing (X : K.In h) (G : h.Ns mainGlobals mg) (c : He.SaysD fa fn K) : Dn K mg "explain_showing" "explain_showing" (topS 87) := by
  obtain ⟨fd, F⟩ := c.def_ 60 (d := dd_explain_showing) rfl
  exact ⟨_, fd, F, He.glo_ok X G (c.fact 60 (f := .glo "explain_showing") rfl)⟩
theorem dn__law_row (X : K.In h) (G : h.Ns mainGlobals mg) (c : He.SaysD fa fn K) : Dn K mg "_law_row" "_law_row" (topS 89) := by
  obtain ⟨fd, F⟩ := c.def_ 61 (d := dd__law_row) rfl
  exact ⟨_, fd, F, He.glo_ok X G (c.fact 61 (f := .glo "_law_row") rfl)⟩
theorem dn__law_at (X : K.In h) (G : h.Ns mainGlobals mg) (c : He.SaysD fa fn K) : Dn K mg "_law_at" "_law_at" (topS 90) := by
  obtain ⟨fd, F⟩ := c.def_ 62 (d := dd__law_at) rfl
  exact ⟨_, fd, F, He.glo_ok X G (c.fact 62 (f := .glo "_law_at") rfl)⟩
theorem dn__law_setup (X : K.In h) (G : h.Ns mainGlobals mg) (c : He.SaysD fa fn K) : Dn K mg "_law_setup" "_law_setup" (topS 91) := by
  obtain ⟨fd, F⟩ := c.def_ 63 (d := dd__law_setup) rfl
  exact ⟨_, fd, F, He.glo_ok X G (c.fact 63 (f := .glo "_law_setup") rfl)⟩
theorem dn__law_person (X : K.In h) (G : h.Ns mainGlobals mg) (c : He.SaysD fa fn K) : Dn K mg "_law_person" "_law_person" (topS 92) := by
  obtain ⟨fd, F⟩ := c.def_ 64 (d := dd__law_person) rfl
  exact ⟨_, fd, F, He.glo_ok X G (c.fact 64 (f := .glo "_law_person") rfl)⟩
theorem dn__law_session (X : K.In h) (G : h.Ns mainGlobals mg) (c : He.SaysD fa fn K) : Dn K mg "_law_session" "_law_session" (topS 93) := by
  obtain ⟨fd, F⟩ := c.def_ 65 (d := dd__law_session) rfl
  exact ⟨_, fd, F, He.glo_ok X G (c.fact 65 (f := .glo "_law_session") rfl)⟩
theorem dn__law_pairs (X : K.In h) (G : h.Ns mainGlobals mg) (c : He.SaysD fa fn K) : Dn K mg "_law_pairs" "_law_pairs" (topS 94) := by
  obtain ⟨fd, F⟩ := c.def_ 66 (d := dd__law_pairs) rfl
  exact ⟨_, fd, F, He.glo_ok X G (c.fact 66 (f := .glo "_law_pairs") rfl)⟩
theorem dn__law_noise (X : K.In h) (G : h.Ns mainGlobals mg) (c : He.SaysD fa fn K) : Dn K mg "_law_noise" "_law_noise" (topS 95) := by
  obtain ⟨fd, F⟩ := c.def_ 67 (d := dd__law_noise) rfl
  exact ⟨_, fd, F, He.glo_ok X G (c.fact 67 (f := .glo "_law_noise") rfl)⟩
theorem dn__law_replayed (X : K.In h) (G : h.Ns mainGlobals mg) (c : He.SaysD fa fn K) : Dn K mg "_law_replayed" "_law_replayed" (topS 96) := by
  obtain ⟨fd, F⟩ := c.def_ 68 (d := dd__law_replayed) rfl
  exact ⟨_, fd, F, He.glo_ok X G (c.fact 68 (f := .glo "_law_replayed") rfl)⟩
theorem dn__law_varied (X : K.In h) (G : h.Ns mainGlobals mg) (c : He.SaysD fa fn K) : Dn K mg "_law_varied" "_law_varied" (topS 97) := by
  obtain ⟨fd, F⟩ := c.def_ 69 (d := dd__law_varied) rfl
  exact ⟨_, fd, F, He.glo_ok X G (c.fact 69 (f := .glo "_law_varied") rfl)⟩
theorem dn_law (X : K.In h) (G : h.Ns mainGlobals mg) (c : He.SaysD fa fn K) : Dn K mg "law" "law" (topS 98) := by
  obtain ⟨fd, F⟩ := c.def_ 70 (d := dd_law) rfl
  exact ⟨_, fd, F, He.glo_ok X G (c.fact 70 (f := .glo "law") rfl)⟩
theorem facts {f : Addr} (X : K.In h) (G : h.Ns mainGlobals mg) (hfa : mg ("law" : Str) = some (.ref f)) (c : He.SaysD fa fn K) :
    ∃ fd : FuncData, (∀ (s : Shared) (v : Value), BindsTo s fd ⟨[v], []⟩ [("_law_script", v)]) ∧ ∀ base : Heap, K.In base → base.Ns mainGlobals mg → FnOk P w K mg base (L2.CX P w) 12 f fd ["_law_script"] (spLaw K) := by
  have T := tx X G c
  obtain ⟨fdR, FR⟩ := c.def_ 61 (d := dd__law_row) rfl
  obtain ⟨fd, FL⟩ := c.def_ 70 (d := dd_law) rfl
  have e := hfa.symm.trans (He.glo_ok X G (c.fact 70 (f := .glo "law") rfl))
  cases e
  have b := FunD.bindsA (ps := ["_law_script"]) FL fun _ _ _ _ _ _ us hl => match us, hl with | [_], _ => rfl
  refine ⟨fd, fun s v => b s [v] rfl, fun base _ _ => ?_⟩
  have c_coin : Cal P w K mg base "coin" 1 R_coin := mk_coin T (dn_coin X G c)  (fun ds o z => by cases z <;> rfl) fun E ds o z => bd_coin E ds o z
  have c_challenge : Cal P w K mg base "challenge" 2 R_challenge := mk_challenge T (dn_challenge X G c) c_coin (fun ds o z => by cases z <;> rfl) fun E ds o z => bd_challenge E ds o z
  have c_joined_text : Cal P w K mg base "joined_text" 1 R_joined_text := mk_joined_text T (dn_joined_text X G c)  (fun ds o z => by cases z <;> rfl) fun E ds o z => bd_joined_text E ds o z
  have c_challenge_of : Cal P w K mg base "challenge_of" 3 R_challenge_of := mk_challenge_of T (dn_challenge_of X G c) c_joined_text c_challenge (fun ds o z => by cases z <;> rfl) fun E ds o z => bd_challenge_of E ds o z
  have c_raised : Cal P w K mg base "raised" 1 R_raised := mk_raised T (dn_raised X G c)  (fun ds o z => by cases z <;> rfl) fun E ds o z => bd_raised E ds o z
  have c_is_element : Cal P w K mg base "is_element" 2 R_is_element := mk_is_element T (dn_is_element X G c) c_raised (fun ds o z => by cases z <;> rfl) fun E ds o z => bd_is_element E ds o z
  have c_check_element : Cal P w K mg base "check_element" 3 R_check_element := mk_check_element T (dn_check_element X G c) c_is_element (fun ds o z => by cases z <;> rfl) fun E ds o z => bd_check_element E ds o z
  have c_power : Cal P w K mg base "power" 4 R_power := mk_power T (dn_power X G c) c_check_element c_raised (fun ds o z => by cases z <;> rfl) fun E ds o z => bd_power E ds o z
  have c_product : Cal P w K mg base "product" 4 R_product := mk_product T (dn_product X G c) c_check_element (fun ds o z => by cases z <;> rfl) fun E ds o z => bd_product E ds o z
  have c_product_of_powers : Cal P w K mg base "product_of_powers" 5 R_product_of_powers := mk_product_of_powers T (dn_product_of_powers X G c) c_power (fun ds o z => by cases z <;> rfl) fun E ds o z => bd_product_of_powers E ds o z
  have c_inverse : Cal P w K mg base "inverse" 5 R_inverse := mk_inverse T (dn_inverse X G c) c_power (fun ds o z => by cases z <;> rfl) fun E ds o z => bd_inverse E ds o z
  have c_logarithm : Cal P w K mg base "logarithm" 4 R_logarithm := mk_logarithm T (dn_logarithm X G c) c_check_element (fun ds o z => by cases z <;> rfl) fun E ds o z => bd_logarithm E ds o z
  have c_quotient : Cal P w K mg base "quotient" 2 R_quotient := mk_quotient T (dn_quotient X G c) c_raised (fun ds o z => by cases z <;> rfl) fun E ds o z => bd_quotient E ds o z
  have c_setup_of : Cal P w K mg base "setup_of" 5 R_setup_of := mk_setup_of T (dn_setup_of X G c) c_coin c_power (fun ds o z => by cases z <;> rfl) fun E ds o z => bd_setup_of E ds o z
  have c_is_exponent_claims : Cal P w K mg base "is_exponent_claims" 1 R_is_exponent_claims := mk_is_exponent_claims T (dn_is_exponent_claims X G c)  (fun ds o z => by cases z <;> rfl) fun E ds o z => bd_is_exponent_claims E ds o z
  have c_are_values : Cal P w K mg base "are_values" 2 R_are_values := mk_are_values T (dn_are_values X G c) c_is_exponent_claims (fun ds o z => by cases z <;> rfl) fun E ds o z => bd_are_values E ds o z
  have c_check_values : Cal P w K mg base "check_values" 3 R_check_values := mk_check_values T (dn_check_values X G c) c_are_values (fun ds o z => by cases z <;> rfl) fun E ds o z => bd_check_values E ds o z
  have c_holds : Cal P w K mg base "holds" 6 R_holds := mk_holds T (dn_holds X G c) c_check_values c_product_of_powers (fun ds o z => by cases z <;> rfl) fun E ds o z => bd_holds E ds o z
  have c_claim_numbers : Cal P w K mg base "claim_numbers" 1 R_claim_numbers := mk_claim_numbers T (dn_claim_numbers X G c)  (fun ds o z => by cases z <;> rfl) fun E ds o z => bd_claim_numbers E ds o z
  have c_traces : Cal P w K mg base "traces" 6 R_traces := mk_traces T (dn_traces X G c) c_is_exponent_claims c_check_values c_product_of_powers c_power c_inverse c_product (fun ds o z => by cases z <;> rfl) fun E ds o z => bd_traces E ds o z
  have c_choice_numbers : Cal P w K mg base "choice_numbers" 2 R_choice_numbers := mk_choice_numbers T (dn_choice_numbers X G c) c_claim_numbers (fun ds o z => by cases z <;> rfl) fun E ds o z => bd_choice_numbers E ds o z
  have c_has_form : Cal P w K mg base "has_form" 3 R_has_form := mk_has_form T (dn_has_form X G c) c_is_exponent_claims c_are_values (fun ds o z => by cases z <;> rfl) fun E ds o z => bd_has_form E ds o z
  have c_call_of : Cal P w K mg base "call_of" 7 R_call_of := mk_call_of T (dn_call_of X G c) c_choice_numbers c_traces c_challenge_of (fun ds o z => by cases z <;> rfl) fun E ds o z => bd_call_of E ds o z
  have c_check_maker : Cal P w K mg base "check_maker" 7 R_check_maker := mk_check_maker T (dn_check_maker X G c) c_are_values c_holds (fun ds o z => by cases z <;> rfl) fun E ds o z => bd_check_maker E ds o z
  have c_sum_of_others : Cal P w K mg base "sum_of_others" 1 R_sum_of_others := mk_sum_of_others T (dn_sum_of_others X G c)  (fun ds o z => by cases z <;> rfl) fun E ds o z => bd_sum_of_others E ds o z
  have c_make_paper : Cal P w K mg base "make_paper" 8 R_make_paper := mk_make_paper T (dn_make_paper X G c) c_check_maker c_has_form c_call_of c_sum_of_others (fun ds o z => by cases z <;> rfl) fun E ds o z => bd_make_paper E ds o z
  have c_check_paper : Cal P w K mg base "check_paper" 8 R_check_paper := mk_check_paper T (dn_check_paper X G c) c_has_form c_sum_of_others c_call_of (fun ds o z => by cases z <;> rfl) fun E ds o z => bd_check_paper E ds o z
  have c_explain_paper : Cal P w K mg base "explain_paper" 9 R_explain_paper := mk_explain_paper T (dn_explain_paper X G c) c_check_paper c_check_maker (fun ds o z => by cases z <;> rfl) fun E ds o z => bd_explain_paper E ds o z
  have c_is_pair : Cal P w K mg base "is_pair" 1 R_is_pair := mk_is_pair T (dn_is_pair X G c)  (fun ds o z => by cases z <;> rfl) fun E ds o z => bd_is_pair E ds o z
  have c_index_of : Cal P w K mg base "index_of" 2 R_index_of := mk_index_of T (dn_index_of X G c) c_is_pair (fun ds o z => by cases z <;> rfl) fun E ds o z => bd_index_of E ds o z
  have c_check_set : Cal P w K mg base "check_set" 3 R_check_set := mk_check_set T (dn_check_set X G c) c_index_of (fun ds o z => by cases z <;> rfl) fun E ds o z => bd_check_set E ds o z
  have c_is_exponent_passes : Cal P w K mg base "is_exponent_passes" 1 R_is_exponent_passes := mk_is_exponent_passes T (dn_is_exponent_passes X G c)  (fun ds o z => by cases z <;> rfl) fun E ds o z => bd_is_exponent_passes E ds o z
  have c_check_person : Cal P w K mg base "check_person" 2 R_check_person := mk_check_person T (dn_check_person X G c) c_is_exponent_passes (fun ds o z => by cases z <;> rfl) fun E ds o z => bd_check_person E ds o z
  have c_plain_mark : Cal P w K mg base "plain_mark" 6 R_plain_mark := mk_plain_mark T (dn_plain_mark X G c) c_product_of_powers (fun ds o z => by cases z <;> rfl) fun E ds o z => bd_plain_mark E ds o z
  have c_mark_of : Cal P w K mg base "mark_of" 7 R_mark_of := mk_mark_of T (dn_mark_of X G c) c_check_person c_plain_mark (fun ds o z => by cases z <;> rfl) fun E ds o z => bd_mark_of E ds o z
  have c_check_secret : Cal P w K mg base "check_secret" 1 R_check_secret := mk_check_secret T (dn_check_secret X G c)  (fun ds o z => by cases z <;> rfl) fun E ds o z => bd_check_secret E ds o z
  have c_check_exponents : Cal P w K mg base "check_exponents" 2 R_check_exponents := mk_check_exponents T (dn_check_exponents X G c) c_is_exponent_passes (fun ds o z => by cases z <;> rfl) fun E ds o z => bd_check_exponents E ds o z
  have c_check_blinding : Cal P w K mg base "check_blinding" 3 R_check_blinding := mk_check_blinding T (dn_check_blinding X G c) c_check_exponents (fun ds o z => by cases z <;> rfl) fun E ds o z => bd_check_blinding E ds o z
  have c_key_of : Cal P w K mg base "key_of" 5 R_key_of := mk_key_of T (dn_key_of X G c) c_check_secret c_power (fun ds o z => by cases z <;> rfl) fun E ds o z => bd_key_of E ds o z
  have c_offer_of : Cal P w K mg base "offer_of" 8 R_offer_of := mk_offer_of T (dn_offer_of X G c) c_check_secret c_check_exponents c_mark_of c_power (fun ds o z => by cases z <;> rfl) fun E ds o z => bd_offer_of E ds o z
  have c_hidden : Cal P w K mg base "hidden" 8 R_hidden := mk_hidden T (dn_hidden X G c) c_mark_of c_is_element c_check_blinding c_power c_product_of_powers c_product (fun ds o z => by cases z <;> rfl) fun E ds o z => bd_hidden E ds o z
  have c_challenge_for : Cal P w K mg base "challenge_for" 4 R_challenge_for := mk_challenge_for T (dn_challenge_for X G c) c_challenge_of (fun ds o z => by cases z <;> rfl) fun E ds o z => bd_challenge_for E ds o z
  have c_request_of : Cal P w K mg base "request_of" 9 R_request_of := mk_request_of T (dn_request_of X G c) c_hidden c_challenge_for c_quotient (fun ds o z => by cases z <;> rfl) fun E ds o z => bd_request_of E ds o z
  have c_grant_of : Cal P w K mg base "grant_of" 3 R_grant_of := mk_grant_of T (dn_grant_of X G c) c_check_secret c_check_exponents (fun ds o z => by cases z <;> rfl) fun E ds o z => bd_grant_of E ds o z
  have c_is_granted : Cal P w K mg base "is_granted" 5 R_is_granted := mk_is_granted T (dn_is_granted X G c) c_power c_product (fun ds o z => by cases z <;> rfl) fun E ds o z => bd_is_granted E ds o z
  have c_ticket_of : Cal P w K mg base "ticket_of" 9 R_ticket_of := mk_ticket_of T (dn_ticket_of X G c) c_hidden c_check_exponents c_challenge_for c_quotient c_is_granted c_mark_of (fun ds o z => by cases z <;> rfl) fun E ds o z => bd_ticket_of E ds o z
  have c_spend_of : Cal P w K mg base "spend_of" 4 R_spend_of := mk_spend_of T (dn_spend_of X G c) c_check_person c_check_blinding c_check_exponents (fun ds o z => by cases z <;> rfl) fun E ds o z => bd_spend_of E ds o z
  have c_is_spend : Cal P w K mg base "is_spend" 6 R_is_spend := mk_is_spend T (dn_is_spend X G c) c_is_element c_is_exponent_passes c_product_of_powers c_power c_product (fun ds o z => by cases z <;> rfl) fun E ds o z => bd_is_spend E ds o z
  have c_inner_challenge : Cal P w K mg base "inner_challenge" 5 R_inner_challenge := mk_inner_challenge T (dn_inner_challenge X G c) c_challenge_for (fun ds o z => by cases z <;> rfl) fun E ds o z => bd_inner_challenge E ds o z
  have c_is_ticket : Cal P w K mg base "is_ticket" 6 R_is_ticket := mk_is_ticket T (dn_is_ticket X G c) c_is_element c_is_exponent_passes c_inner_challenge c_is_granted (fun ds o z => by cases z <;> rfl) fun E ds o z => bd_is_ticket E ds o z
  have c_blinding_of : Cal P w K mg base "blinding_of" 8 R_blinding_of := mk_blinding_of T (dn_blinding_of X G c) c_mark_of c_logarithm c_inner_challenge c_quotient (fun ds o z => by cases z <;> rfl) fun E ds o z => bd_blinding_of E ds o z
  have c_explain_ticket : Cal P w K mg base "explain_ticket" 10 R_explain_ticket := mk_explain_ticket T (dn_explain_ticket X G c) c_blinding_of c_request_of c_spend_of c_ticket_of (fun ds o z => by cases z <;> rfl) fun E ds o z => bd_explain_ticket T E ds o z
  have c_is_gate_name : Cal P w K mg base "is_gate_name" 1 R_is_gate_name := mk_is_gate_name T (dn_is_gate_name X G c)  (fun ds o z => by cases z <;> rfl) fun E ds o z => bd_is_gate_name E ds o z
  have c_check_context : Cal P w K mg base "check_context" 2 R_check_context := mk_check_context T (dn_check_context X G c) c_is_gate_name (fun ds o z => by cases z <;> rfl) fun E ds o z => bd_check_context E ds o z
  have c_stage_numbers : Cal P w K mg base "stage_numbers" 4 R_stage_numbers := mk_stage_numbers T (dn_stage_numbers X G c) c_check_context c_check_set c_index_of (fun ds o z => by cases z <;> rfl) fun E ds o z => bd_stage_numbers E ds o z
  have c_stage_challenge : Cal P w K mg base "stage_challenge" 5 R_stage_challenge := mk_stage_challenge T (dn_stage_challenge X G c) c_stage_numbers c_challenge_of (fun ds o z => by cases z <;> rfl) fun E ds o z => bd_stage_challenge E ds o z
  have c_choice_of : Cal P w K mg base "choice_of" 6 R_choice_of := mk_choice_of T (dn_choice_of X G c) c_check_set c_is_element c_product_of_powers (fun ds o z => by cases z <;> rfl) fun E ds o z => bd_choice_of E ds o z
  have c_paper_text : Cal P w K mg base "paper_text" 5 R_paper_text := mk_paper_text T (dn_paper_text X G c) c_stage_numbers c_joined_text (fun ds o z => by cases z <;> rfl) fun E ds o z => bd_paper_text E ds o z
  have c_make_showing : Cal P w K mg base "make_showing" 9 R_make_showing := mk_make_showing T (dn_make_showing X G c) c_stage_challenge c_spend_of c_choice_of c_paper_text c_make_paper (fun ds o z => by cases z <;> rfl) fun E ds o z => bd_make_showing E ds o z
  have c_check_showing : Cal P w K mg base "check_showing" 9 R_check_showing := mk_check_showing T (dn_check_showing X G c) c_stage_challenge c_is_ticket c_is_spend c_paper_text c_choice_of c_check_paper (fun ds o z => by cases z <;> rfl) fun E ds o z => bd_check_showing E ds o z
  have c_explain_showing : Cal P w K mg base "explain_showing" 11 R_explain_showing := mk_explain_showing T (dn_explain_showing X G c) c_check_showing c_explain_ticket c_choice_of c_paper_text c_explain_paper (fun ds o z => by cases z <;> rfl) fun E ds o z => bd_explain_showing E ds o z
  have c__law_at : Cal P w K mg base "_law_at" 1 R__law_at := mk__law_at T (dn__law_at X G c)  (fun ds o z => by cases z <;> rfl) fun E ds o z => bd__law_at E ds o z
  have c__law_setup : Cal P w K mg base "_law_setup" 6 R__law_setup := mk__law_setup T (dn__law_setup X G c) c__law_at c_setup_of (fun ds o z => by cases z <;> rfl) fun E ds o z => bd__law_setup E ds o z
  have c__law_person : Cal P w K mg base "_law_person" 8 R__law_person := mk__law_person T (dn__law_person X G c) c__law_at c_mark_of (fun ds o z => by cases z <;> rfl) fun E ds o z => bd__law_person T E ds o z
  have c__law_session : Cal P w K mg base "_law_session" 10 R__law_session := mk__law_session T (dn__law_session X G c) c__law_at c_offer_of c_request_of c_grant_of c_key_of c_ticket_of (fun ds o z => by cases z <;> rfl) fun E ds o z => bd__law_session E ds o z
  have c__law_pairs : Cal P w K mg base "_law_pairs" 2 R__law_pairs := mk__law_pairs T (dn__law_pairs X G c) c__law_at (fun ds o z => by cases z <;> rfl) fun E ds o z => bd__law_pairs E ds o z
  have c__law_noise : Cal P w K mg base "_law_noise" 2 R__law_noise := mk__law_noise T (dn__law_noise X G c) c__law_at (fun ds o z => by cases z <;> rfl) fun E ds o z => bd__law_noise E ds o z
  have c__law_replayed : Cal P w K mg base "_law_replayed" 10 R__law_replayed := mk__law_replayed T (dn__law_replayed X G c) c_request_of c_ticket_of c_make_showing (fun ds o z => by cases z <;> rfl) fun E ds o z => bd__law_replayed E ds o z
  have c__law_varied : Cal P w K mg base "_law_varied" 1 R__law_varied := mk__law_varied T (dn__law_varied X G c)  (fun ds o z => by cases z <;> rfl) fun E ds o z => bd__law_varied E ds o z
  have c__law_row : CalS P w K mg base "_law_row" 1 (spRow K) := ⟨_, fdR, ["_law_script"], mk__law_rowS T FR (fun vs H Q E z => by obtain ⟨p, ns, rfl, _⟩ := z; rfl) fun E vs H Q z => run_row E vs H Q z, He.glo_ok X G (c.fact 61 (f := .glo "_law_row") rfl), FR.kp, FR.bindsN fun _ _ _ _ _ _ us hl => match us, hl with | [_], _ => rfl⟩
  exact mk_lawS T FL c__law_row c__law_setup c__law_at c__law_person c__law_session c__law_pairs c__law_noise c_make_showing c_key_of c_explain_showing c_mark_of c__law_replayed c__law_varied (fun vs H Q E z => by obtain ⟨p, ns, rfl, _⟩ := z; rfl) fun E vs H Q z => run_law T E vs H Q z
end
end Ck
open PySem PySem.W PySem.Calls PyProof.Rows
theorem PySem.Challenge.cw_cloak_k52_whole_showings_explained_holds : PySem.Challenge.rw_cloak_k52_whole_showings_explained.Holds := by
  w_on; o_law
  refine HandSHeadRun.head_any (r := OpenLaw.row PySem.Challenge.rw_cloak_k52_whole_showings_explained) (q := view (OpenLaw.row PySem.Challenge.rw_cloak_k52_whole_showings_explained).prog [98]) (H := Ck.hk) (ob := Ck.ob) (M := 6000) (loose := Ck.loose) (d := HandSHeadRun.topDef (OpenLaw.row PySem.Challenge.rw_cloak_k52_whole_showings_explained).prog 98) (kwd := []) Ck.ob_eq
    (by kernel_rfl) (fun s => by kernel_rfl) Ck.run (by kernel_rfl) (by kernel_rfl) (by kernel_rfl) (by rfl) (by first | assumption | decide +kernel) (by decide +kernel) ⟨rfl, rfl, rfl, rfl, rfl, by decide +kernel⟩ ?hw ?hc
  case hw => w_witness2
  case hc =>
    refine Ck.walk_ofW (law := PySem.Challenge.rw_cloak_k52_whole_showings_explained) (most := 63) (lv := 12) (nm := "_law_script") (CC := fun w => L2.CX (PySem.Challenge.rw_cloak_k52_whole_showings_explained).prog w) rfl (by decide) (by kernel_rfl) ⟨rfl, by decide, by decide⟩ ?F (fun w H s e s' ⟨_, _, _, _, _, _, _, _, _, _, _, _, z⟩ => z)
    intro w mg fa h Y G hmg0
    obtain ⟨K, KX, c⟩ := Y
    have hmg : mg ("law" : PySem.Str) = some (.ref fa) := by
      have e : (HandSHeadRun.topDef (OpenLaw.row PySem.Challenge.rw_cloak_k52_whole_showings_explained).prog 98).name = ("law" : PySem.Str) := by kernel_rfl
      rw [← e]
      exact hmg0
    obtain ⟨fd, hb, hF⟩ := Ck.facts (P := (PySem.Challenge.rw_cloak_k52_whole_showings_explained).prog) (w := w) KX G hmg c
    exact ⟨K, fd, Ck.spLaw K, KX, hb, fun H a ns hl _ hS => ⟨a, ns, rfl, hS, hl, fun _ => rfl⟩, hF⟩

