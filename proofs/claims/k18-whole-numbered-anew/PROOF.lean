import PyProof.Rows.All
import HandS.ForMost
import HandS.TupAny
import HandS.Zip
import HandS.Deep
import HandS.NoneIn
import HandS.Conv
import KE.SortData
import HandS.IsInst
import HandS.More
import KE.GoesMore
import PyProof.EnumMake
import HandS.Set
import HandS.SetFor
import HandS.Strs
import HandS.Dict
import KE.KDictKeyed
import KE.KDictDisplayH
import KE.KDictList
import PyProof.Rows.FactsT1
import PyProof.Rows.FactsT3
import PyProof.Rows.FactsN_isinstance
import PyProof.PvWalk
import HandS.Words
import HandS.Comp
import HandS.Iter
import PySem.Challenge.RW_delaygates_k18_whole_numbered_anew
/-! ## part 1 -/
set_option Elab.async false
set_option linter.all false
set_option maxRecDepth 100000
set_option maxHeartbeats 1000000
/-! F1: data in the abstract heap, and a reading of the layer's terms over data alone. -/
namespace G
open PySem PySem.Spec PyProof.Rows L2

def Ex (H H' : Hp) : Prop := ∀ a o, H a = some o → H' a = some o
theorem Ex.refl (H : Hp) : Ex H H := fun _ _ h => h
theorem Ex.trans {H H1 H2 : Hp} (a : Ex H H1) (b : Ex H1 H2) : Ex H H2 := fun x o h => b x o (a x o h)
theorem Ex.new {H : Hp} {p : Addr} {o : HO} (h : H p = none) : Ex H (upd H p o) := fun a u e => by
  rw [upd_ne (ne_of_none e h)]
  exact e
theorem Ex.mut {H H' : Hp} {p : Addr} {o : HO} (e : Ex H H') (h : H p = none) : Ex H (upd H' p o) := fun a u ha => by
  rw [upd_ne (ne_of_none ha h)]
  exact e a u ha
theorem Ex.free {H H' : Hp} {p : Addr} (e : Ex H H') (h : H' p = none) : H p = none := by
  cases h1 : H p with
  | none => rfl
  | some o => rw [e p o h1] at h; cases h

mutual
/-- the value stands for the data, by objects of B -/
inductive Is (B : Hp) : V → PyData → Prop
  | non : Is B .non .none
  | bl (b : Bool) : Is B (.bl b) (.bool b)
  | int (i : Int) : Is B (.int i) (.int i)
  | str (x : Str) : Is B (.str x) (.str x)
  | lst {a : Addr} {vs : List V} {ds : List PyData} : B a = some (.lst vs) → IsAll B vs ds → Is B (.ref a) (.list ds)
  | tup {a : Addr} {vs : List V} {ds : List PyData} : B a = some (.tup vs) → IsAll B vs ds → Is B (.ref a) (.tuple ds)
inductive IsAll (B : Hp) : List V → List PyData → Prop
  | nil : IsAll B [] []
  | cons {v : V} {vs : List V} {d : PyData} {ds : List PyData} : Is B v d → IsAll B vs ds → IsAll B (v :: vs) (d :: ds)
end
mutual
theorem Is.mono {B B' : Hp} (e : Ex B B') : ∀ (d : PyData) (v : V), Is B v d → Is B' v d
  | .none, _, h => by cases h; exact .non
  | .bool b, _, h => by cases h; exact .bl b
  | .int i, _, h => by cases h; exact .int i
  | .str x, _, h => by cases h; exact .str x
  | .list ds, _, h => by
    cases h with
    | lst h1 h2 => exact .lst (e _ _ h1) (IsAll.mono e ds _ h2)
  | .tuple ds, _, h => by
    cases h with
    | tup h1 h2 => exact .tup (e _ _ h1) (IsAll.mono e ds _ h2)
  | .dict _, _, h => by cases h
theorem IsAll.mono {B B' : Hp} (e : Ex B B') : ∀ (ds : List PyData) (vs : List V), IsAll B vs ds → IsAll B' vs ds
  | [], _, h => by cases h; exact .nil
  | d :: ds, _, h => by
    cases h with
    | cons h1 h2 => exact .cons (Is.mono e d _ h1) (IsAll.mono e ds _ h2)
end
theorem Is.up {B B' : Hp} {v : V} {d : PyData} (h : Is B v d) (e : Ex B B') : Is B' v d := Is.mono e d v h
theorem IsAll.up {B B' : Hp} {vs : List V} {ds : List PyData} (h : IsAll B vs ds) (e : Ex B B') : IsAll B' vs ds := IsAll.mono e ds vs h
mutual
theorem Is.dp (K : PySem.W.Frag) {B : Hp} : ∀ (d : PyData) (v : V), Is B v d → Dp K B v d
  | .none, _, h => by cases h; exact .non
  | .bool b, _, h => by cases h; exact .bl b
  | .int i, _, h => by cases h; exact .int i
  | .str x, _, h => by cases h; exact .str x
  | .list ds, _, h => by
    cases h with
    | lst h1 h2 => exact .lst (SqL.of h1) (IsAll.dp K ds _ h2)
  | .tuple ds, _, h => by
    cases h with
    | tup h1 h2 => exact .tup (SqT.of h1) (IsAll.dp K ds _ h2)
  | .dict _, _, h => by cases h
theorem IsAll.dp (K : PySem.W.Frag) {B : Hp} : ∀ (ds : List PyData) (vs : List V), IsAll B vs ds → DpAll K B vs ds
  | [], _, h => by cases h; exact .nil
  | d :: ds, _, h => by
    cases h with
    | cons h1 h2 => exact .cons (Is.dp K d _ h1) (IsAll.dp K ds _ h2)
end
theorem IsAll.len {B : Hp} : ∀ {vs : List V} {ds : List PyData}, IsAll B vs ds → vs.length = ds.length
  | _, _, .nil => rfl
  | _, _, .cons _ t => by simp [IsAll.len t]
theorem IsAll.get {B : Hp} : ∀ {vs : List V} {ds : List PyData} {i : Nat} {d : PyData}, IsAll B vs ds → ds[i]? = some d → ∃ v, vs[i]? = some v ∧ Is B v d
  | _, _, _, _, .nil, e => by simp at e
  | _, _, 0, _, .cons r _, e => by simp at e; subst e; exact ⟨_, rfl, r⟩
  | _, _, i + 1, _, .cons _ t, e => by
    obtain ⟨u, h1, h2⟩ := IsAll.get (i := i) t (by simpa using e)
    exact ⟨u, by simpa using h1, h2⟩
theorem IsAll.get' {B : Hp} {vs : List V} {ds : List PyData} {i : Nat} {v : V} (h : IsAll B vs ds) (e : vs[i]? = some v) : ∃ d, ds[i]? = some d ∧ Is B v d := by
  have hi : i < vs.length := (List.getElem?_eq_some_iff.mp e).1
  rw [h.len] at hi
  obtain ⟨u, h1, h2⟩ := h.get (List.getElem?_eq_getElem hi)
  rw [e] at h1
  cases h1
  exact ⟨_, List.getElem?_eq_getElem hi, h2⟩
theorem IsAll.app {B : Hp} : ∀ {vs ws : List V} {ds es : List PyData}, IsAll B vs ds → IsAll B ws es → IsAll B (vs ++ ws) (ds ++ es)
  | _, _, _, _, .nil, s => s
  | _, _, _, _, .cons r t, s => .cons r (IsAll.app t s)
theorem IsAll.set {B : Hp} {v : V} {d : PyData} (r : Is B v d) : ∀ {vs : List V} {ds : List PyData} (i : Nat), IsAll B vs ds → IsAll B (vs.set i v) (ds.set i d)
  | _, _, _, .nil => .nil
  | _, _, 0, .cons _ t => .cons r t
  | _, _, i + 1, .cons q t => .cons q (IsAll.set r i t)
theorem IsAll.take {B : Hp} : ∀ {vs : List V} {ds : List PyData} (n : Nat), IsAll B vs ds → IsAll B (vs.take n) (ds.take n)
  | _, _, 0, _ => .nil
  | _, _, _ + 1, .nil => .nil
  | _, _, n + 1, .cons r t => .cons r (IsAll.take n t)
theorem IsAll.drop {B : Hp} : ∀ {vs : List V} {ds : List PyData} (n : Nat), IsAll B vs ds → IsAll B (vs.drop n) (ds.drop n)
  | _, _, 0, r => r
  | _, _, _ + 1, .nil => .nil
  | _, _, n + 1, .cons _ t => IsAll.drop n t
theorem IsAll.dropLast {B : Hp} {vs : List V} {ds : List PyData} (h : IsAll B vs ds) : IsAll B vs.dropLast ds.dropLast := by
  rw [List.dropLast_eq_take, List.dropLast_eq_take, h.len]
  exact h.take _
theorem IsAll.ints {B : Hp} : ∀ (ns : List Int), IsAll B (ns.map V.int) (ns.map PyData.int)
  | [] => .nil
  | n :: ns => .cons (.int n) (IsAll.ints ns)
theorem IsAll.ints_inv {B : Hp} : ∀ {ns : List Int} {vs : List V}, IsAll B vs (ns.map PyData.int) → vs = ns.map V.int
  | [], _, h => by
    have h' : IsAll B _ [] := h
    cases h'; rfl
  | n :: ns, _, h => by
    have h' : IsAll B _ (PyData.int n :: ns.map PyData.int) := h
    cases h' with
    | cons r t => cases r; rw [IsAll.ints_inv t]; rfl
theorem IsAll.strs_inv {B : Hp} : ∀ {ns : List Str} {vs : List V}, IsAll B vs (ns.map PyData.str) → vs = ns.map V.str
  | [], _, h => by
    have h' : IsAll B _ [] := h
    cases h'; rfl
  | n :: ns, _, h => by
    have h' : IsAll B _ (PyData.str n :: ns.map PyData.str) := h
    cases h' with
    | cons r t => cases r; rw [IsAll.strs_inv t]; rfl
theorem IsAll.strs {B : Hp} : ∀ (ns : List Str), IsAll B (ns.map V.str) (ns.map PyData.str)
  | [] => .nil
  | n :: ns => .cons (.str n) (IsAll.strs ns)
theorem IsAll.insertIdx {B : Hp} {v : V} {d : PyData} (r : Is B v d) : ∀ {vs : List V} {ds : List PyData} (i : Nat), IsAll B vs ds → IsAll B (vs.insertIdx i v) (ds.insertIdx i d)
  | _, _, 0, t => by rw [List.insertIdx_zero, List.insertIdx_zero]; exact .cons r t
  | _, _, _ + 1, .nil => .nil
  | _, _, i + 1, .cons q t => by rw [List.insertIdx_succ_cons, List.insertIdx_succ_cons]; exact .cons q (IsAll.insertIdx r i t)
theorem IsAll.atI {B : Hp} {vs : List V} {ds : List PyData} {i : Int} {d : PyData} (h : IsAll B vs ds) (e : L2.atI ds i = some d) : ∃ v, L2.atI vs i = some v ∧ Is B v d := by
  unfold L2.atI at e ⊢
  rw [h.len]
  cases q : ixN ds.length i with
  | none => rw [q] at e; cases e
  | some j =>
    rw [q] at e
    exact h.get e
theorem IsAll.cutV {B : Hp} {vs : List V} {ds : List PyData} (lo hi : Option Int) (h : IsAll B vs ds) :
    IsAll B (L2.cutV vs lo hi) ((ds.drop (HT.sIx ds.length 0 lo)).take (HT.sIx ds.length ds.length hi - HT.sIx ds.length 0 lo)) := by
  unfold L2.cutV
  rw [h.len]
  exact (h.drop _).take _

/-! ### what a slot is known to hold -/
/-- an object of one's own, at one address: what is true of it -/
structure Ow where
  φ : Addr → Hp → HO → Prop
  mono : ∀ a B B' o, Ex B B' → φ a B o → φ a B' o
/-- a list of one's own, at an address of which A holds -/
def Oa (A : Addr → Prop) (ds : List PyData) : Ow := ⟨fun a B o => A a ∧ ∃ vs, o = .lst vs ∧ IsAll B vs ds, fun _ _ _ _ e ⟨h0, vs, h1, h2⟩ => ⟨h0, vs, h1, h2.up e⟩⟩
abbrev Ol (ds : List PyData) : Ow := Oa (fun _ => True) ds
inductive Sv where
  | no
  | d (d : PyData)
  | o (p : Ow)
def SvOk (B H H0 : Hp) (x : Option (Option V)) : Sv → Prop
  | .no => True
  | .d d => ∃ v, x = some (some v) ∧ Is B v d
  | .o p => ∃ a o, x = some (some (.ref a)) ∧ B a = none ∧ H0 a = none ∧ H a = some o ∧ p.φ a B o
/-- no slot owns the object at a -/
def NoOwn (Γ : List Sv) (σ : L2.St) (a : Addr) : Prop := ∀ (i : Nat) p, Γ[i]? = some (.o p) → σ[i]? ≠ some (some (.ref a))

structure Sl (B0 H0 : Hp) (Γ : List Sv) (B : Hp) (σ : L2.St) (H : Hp) : Prop where
  b0 : Ex B0 B
  h0 : Ex H0 H
  nb : ∀ a o, H0 a = some o → B0 a = none → B a = none
  bh : Ex B H
  len : σ.length = Γ.length
  sl : ∀ (i : Nat) s, Γ[i]? = some s → SvOk B H H0 σ[i]? s
  ap : ∀ (i j : Nat) p q a, i ≠ j → Γ[i]? = some (.o p) → Γ[j]? = some (.o q) → σ[i]? = some (some (.ref a)) → σ[j]? ≠ some (some (.ref a))

structure Grow (B H B' H' : Hp) : Prop where
  b : Ex B B'
  h : Ex H H'
  bh : Ex B' H'
  nb : ∀ a o, H a = some o → B a = none → B' a = none
theorem Grow.refl {B H : Hp} (e : Ex B H) : Grow B H B H := ⟨Ex.refl _, Ex.refl _, e, fun _ _ _ h => h⟩
theorem Grow.trans {B H B1 H1 B2 H2 : Hp} (x : Grow B H B1 H1) (y : Grow B1 H1 B2 H2) : Grow B H B2 H2 :=
  ⟨x.b.trans y.b, x.h.trans y.h, y.bh, fun a o e n => y.nb a o (x.h a o e) (x.nb a o e n)⟩
/-- a new object, of the data -/
theorem Grow.new {B H : Hp} {p : Addr} {o : HO} (e : Ex B H) (hp : H p = none) : Grow B H (upd B p o) (upd H p o) :=
  ⟨Ex.new (e.free hp), Ex.new hp, fun a u q => by
    by_cases c : a = p
    · subst c; rw [upd_same] at q ⊢; exact q
    · rw [upd_ne c] at q ⊢; exact e a u q, fun a u q n => by rw [upd_ne (ne_of_none q hp)]; exact n⟩
/-- a new object, not of the data -/
theorem Grow.new' {B H : Hp} {p : Addr} {o : HO} (e : Ex B H) (hp : H p = none) : Grow B H B (upd H p o) :=
  ⟨Ex.refl _, Ex.new hp, fun a u q => by rw [upd_ne (ne_of_none q (e.free hp))]; exact e a u q, fun a u q n => n⟩

section
variable {B0 H0 B B' H H' : Hp} {Γ : List Sv} {σ : L2.St}
theorem Sl.grow (S : Sl B0 H0 Γ B σ H) (g : Grow B H B' H') : Sl B0 H0 Γ B' σ H' where
  b0 := S.b0.trans g.b
  h0 := S.h0.trans g.h
  nb := fun a o e n => g.nb a o (S.h0 a o e) (S.nb a o e n)
  bh := g.bh
  len := S.len
  sl := fun i s e => by
    have h := S.sl i s e
    cases s with
    | no => trivial
    | d d => obtain ⟨v, h1, h2⟩ := h; exact ⟨v, h1, h2.up g.b⟩
    | o p => obtain ⟨a, o, h1, h2, h3, h4, h5⟩ := h; exact ⟨a, o, h1, g.nb a o h4 h2, h3, g.h a o h4, p.mono _ _ _ _ g.b h5⟩
  ap := S.ap
theorem Sl.own (S : Sl B0 H0 Γ B σ H) {i : Nat} {p : Ow} (e : Γ[i]? = some (.o p)) : ∃ a o, σ[i]? = some (some (.ref a)) ∧ B a = none ∧ H0 a = none ∧ H a = some o ∧ p.φ a B o := S.sl i _ e
theorem Sl.dat (S : Sl B0 H0 Γ B σ H) {i : Nat} {d : PyData} (e : Γ[i]? = some (.d d)) : ∃ v, σ[i]? = some (some v) ∧ Is B v d := S.sl i _ e
theorem lt_of_get {α : Type} {l : List α} {i : Nat} {x : α} (h : l[i]? = some x) : i < l.length := (List.getElem?_eq_some_iff.mp h).1
/-- an owned object is changed -/
theorem Sl.write (S : Sl B0 H0 Γ B σ H) {i : Nat} {p p' : Ow} {a : Addr} {o' : HO} (e : Γ[i]? = some (.o p)) (ha : σ[i]? = some (some (.ref a))) (ho : p'.φ a B o') : Sl B0 H0 (Γ.set i (.o p')) B σ (upd H a o') := by
  obtain ⟨a', o, h1, h2, h3, h4, h5⟩ := S.own e
  rw [ha] at h1
  cases h1
  refine ⟨S.b0, S.h0.mut h3, S.nb, S.bh.mut h2, by rw [S.len, List.length_set], fun j s ej => ?_, fun j k q r b hjk ej ek hj => ?_⟩
  · by_cases c : i = j
    · subst c
      rw [List.getElem?_set_self (lt_of_get e)] at ej
      cases ej
      exact ⟨a, o', ha, h2, h3, upd_same, ho⟩
    · rw [List.getElem?_set_ne c] at ej
      have h := S.sl j s ej
      cases s with
      | no => trivial
      | d d => exact h
      | o q =>
        obtain ⟨b, u, g1, g2, g3, g4, g5⟩ := h
        have hb : b ≠ a := fun z => by
          subst z
          exact S.ap j i q p b (fun z => c z.symm) ej e g1 ha
        exact ⟨b, u, g1, g2, g3, by rw [upd_ne hb]; exact g4, g5⟩
  · have own : ∀ {m : Nat} {r : Ow}, (Γ.set i (.o p'))[m]? = some (.o r) → ∃ r', Γ[m]? = some (.o r') := fun {m r} em => by
      by_cases c : i = m
      · subst c; exact ⟨p, e⟩
      · rw [List.getElem?_set_ne c] at em; exact ⟨r, em⟩
    obtain ⟨q', eq'⟩ := own ej
    obtain ⟨r', er'⟩ := own ek
    exact S.ap j k q' r' b hjk eq' er' hj
/-- a slot takes data -/
theorem Sl.put (S : Sl B0 H0 Γ B σ H) {i : Nat} {v : V} {d : PyData} (hi : i < Γ.length) (h : Is B v d) : Sl B0 H0 (Γ.set i (.d d)) B (σ.set i (some v)) H := by
  refine ⟨S.b0, S.h0, S.nb, S.bh, by rw [List.length_set, List.length_set, S.len], fun j s ej => ?_, fun j k q r b hjk ej ek hj => ?_⟩
  · by_cases c : i = j
    · subst c
      rw [List.getElem?_set_self hi] at ej
      cases ej
      exact ⟨v, List.getElem?_set_self (by rw [S.len]; exact hi), h⟩
    · rw [List.getElem?_set_ne c] at ej ⊢
      exact S.sl j s ej
  · by_cases c : i = j
    · subst c; rw [List.getElem?_set_self hi] at ej; cases ej
    · by_cases c2 : i = k
      · subst c2; rw [List.getElem?_set_self hi] at ek; cases ek
      · rw [List.getElem?_set_ne c] at ej hj
        rw [List.getElem?_set_ne c2] at ek ⊢
        exact S.ap j k q r b hjk ej ek hj
/-- a slot is forgotten -/
theorem Sl.drop (S : Sl B0 H0 Γ B σ H) (i : Nat) : Sl B0 H0 (Γ.set i .no) B σ H := by
  refine ⟨S.b0, S.h0, S.nb, S.bh, by rw [List.length_set, S.len], fun j s ej => ?_, fun j k q r b hjk ej ek hj => ?_⟩
  · by_cases c : i = j
    · subst c
      have hi := lt_of_get ej
      rw [List.length_set] at hi
      rw [List.getElem?_set_self hi] at ej
      cases ej
      trivial
    · rw [List.getElem?_set_ne c] at ej
      exact S.sl j s ej
  · by_cases c : i = j
    · subst c
      have hi := lt_of_get ej
      rw [List.length_set] at hi
      rw [List.getElem?_set_self hi] at ej; cases ej
    · by_cases c2 : i = k
      · subst c2
        have hi := lt_of_get ek
        rw [List.length_set] at hi
        rw [List.getElem?_set_self hi] at ek; cases ek
      · rw [List.getElem?_set_ne c] at ej
        rw [List.getElem?_set_ne c2] at ek
        exact S.ap j k q r b hjk ej ek hj
/-- a slot takes an object of one's own -/
theorem Sl.take (S : Sl B0 H0 Γ B σ H) {i : Nat} {a : Addr} {o : HO} {p : Ow} (hi : i < Γ.length) (h1 : B a = none) (h2 : H0 a = none) (h3 : H a = some o) (h4 : p.φ a B o) (h5 : NoOwn Γ σ a) : Sl B0 H0 (Γ.set i (.o p)) B (σ.set i (some (.ref a))) H := by
  have hs : (σ.set i (some (.ref a)))[i]? = some (some (.ref a)) := List.getElem?_set_self (by rw [S.len]; exact hi)
  refine ⟨S.b0, S.h0, S.nb, S.bh, by rw [List.length_set, List.length_set, S.len], fun j s ej => ?_, fun j k q r b hjk ej ek hj => ?_⟩
  · by_cases c : i = j
    · subst c
      rw [List.getElem?_set_self hi] at ej
      cases ej
      exact ⟨a, o, hs, h1, h2, h3, h4⟩
    · rw [List.getElem?_set_ne c] at ej ⊢
      exact S.sl j s ej
  · by_cases c : i = j
    · subst c
      rw [hs] at hj
      cases hj
      rw [List.getElem?_set_ne hjk] at ek ⊢
      exact h5 k r ek
    · rw [List.getElem?_set_ne c] at ej hj
      by_cases c2 : i = k
      · subst c2
        rw [hs]
        intro z
        have z' := Option.some.inj (Option.some.inj z)
        cases z'
        exact h5 j q ej hj
      · rw [List.getElem?_set_ne c2] at ek ⊢
        exact S.ap j k q r b hjk ej ek hj
/-- an object not owned and not of the data is taken for data -/
theorem Sl.freeze (S : Sl B0 H0 Γ B σ H) {a : Addr} {o : HO} (h1 : B a = none) (h2 : H0 a = none) (h3 : H a = some o) (h5 : NoOwn Γ σ a) : Sl B0 H0 Γ (upd B a o) σ H := by
  have e : Ex B (upd B a o) := Ex.new h1
  refine ⟨S.b0.trans e, S.h0, fun b u q n => ?_, fun b u q => ?_, S.len, fun j s ej => ?_, S.ap⟩
  · have hb : b ≠ a := fun z => by subst z; rw [h2] at q; cases q
    rw [upd_ne hb]
    exact S.nb b u q n
  · by_cases c : b = a
    · subst c; rw [upd_same] at q; cases q; exact h3
    · rw [upd_ne c] at q; exact S.bh b u q
  · have h := S.sl j s ej
    cases s with
    | no => trivial
    | d d => obtain ⟨v, g1, g2⟩ := h; exact ⟨v, g1, g2.up e⟩
    | o p =>
      obtain ⟨b, u, g1, g2, g3, g4, g5⟩ := h
      have hb : b ≠ a := fun z => by subst z; exact h5 j p ej g1
      exact ⟨b, u, g1, by rw [upd_ne hb]; exact g2, g3, g4, p.mono _ _ _ _ e g5⟩

/-! ### values that come out -/
/-- a value by what it is: data, or a new object that no slot owns -/
def Rv (B H H0 : Hp) (Γ : List Sv) (σ : L2.St) (v : V) : Sv → Prop
  | .no => True
  | .d d => Is B v d
  | .o p => ∃ a o, v = .ref a ∧ B a = none ∧ H0 a = none ∧ H a = some o ∧ p.φ a B o ∧ NoOwn Γ σ a
end

def Ew (te : TE) (Γ : List Sv) (R : List Sv → Sv → Prop) : Prop := ∀ B0 H0 B σ H, Sl B0 H0 Γ B σ H → ∀ Q : VK,
  (∀ Γ' s v B' H', R Γ' s → Sl B0 H0 Γ' B' σ H' → Ex B B' → Rv B' H' H0 Γ' σ v s → Q v H') → te σ H Q
def Ed (te : TE) (Γ : List Sv) (R : List Sv → PyData → Prop) : Prop := ∀ B0 H0 B σ H, Sl B0 H0 Γ B σ H → ∀ Q : VK,
  (∀ Γ' d v B' H', R Γ' d → Sl B0 H0 Γ' B' σ H' → Ex B B' → Is B' v d → Q v H') → te σ H Q
def Et (tt : TT) (Γ : List Sv) (R : List Sv → Bool → Prop) : Prop := ∀ B0 H0 B σ H, Sl B0 H0 Γ B σ H → ∀ Q : Bool → Hp → Prop,
  (∀ Γ' b B' H', R Γ' b → Sl B0 H0 Γ' B' σ H' → Ex B B' → Q b H') → tt σ H Q
def Ea (ta : TA) (Γ : List Sv) (R : List Sv → List PyData → Prop) : Prop := ∀ B0 H0 B σ H, Sl B0 H0 Γ B σ H → ∀ Q : List V → Hp → Prop,
  (∀ Γ' ds vs B' H', R Γ' ds → Sl B0 H0 Γ' B' σ H' → Ex B B' → IsAll B' vs ds → Q vs H') → ta σ H Q
/-- a list (k) or a tuple read on the spot -/
def Es (te : TE) (Γ : List Sv) (R : List Sv → Bool → List PyData → Prop) : Prop := ∀ B0 H0 B σ H, Sl B0 H0 Γ B σ H → ∀ Q : VK,
  (∀ Γ' k ds a vs B' H', R Γ' k ds → Sl B0 H0 Γ' B' σ H' → Ex B B' → H' a = some (if k then .lst vs else .tup vs) → IsAll B' vs ds → Q (.ref a) H') → te σ H Q
def Eo (to : TO) (Γ : List Sv) (R : List Sv → Option Int → Prop) : Prop := ∀ B0 H0 B σ H, Sl B0 H0 Γ B σ H → ∀ Q : Option Int → Hp → Prop,
  (∀ Γ' i B' H', R Γ' i → Sl B0 H0 Γ' B' σ H' → Ex B B' → Q i H') → to σ H Q
def Fz : Sv → PyData → Prop
  | .d d, e => d = e
  | .o p, e => ∃ ds, p = Ol ds ∧ e = .list ds
  | .no, _ => False

section
variable {Γ : List Sv} {te ta tb tc : TE} {tt tu : TT} {tas : TA} {K : PySem.W.Frag} {R : List Sv → PyData → Prop} {R' : List Sv → Bool → List PyData → Prop}

theorem ed_ew (h : Ew te Γ fun Γ' s => ∃ d, Fz s d ∧ R Γ' d) : Ed te Γ R := fun B0 H0 B σ H S Q q =>
  h B0 H0 B σ H S Q fun Γ' s v B' H' ⟨d, hf, hr⟩ S' e rv => by
    cases s with
    | no => exact hf.elim
    | d x =>
      have hf' : x = d := hf
      subst hf'
      exact q Γ' x v B' H' hr S' e rv
    | o p =>
      obtain ⟨ds, rfl, rfl⟩ := hf
      obtain ⟨a, o, rfl, h1, h2, h3, ⟨_, vs, rfl, h4⟩, h5⟩ := rv
      exact q Γ' _ _ _ H' hr (S'.freeze h1 h2 h3 h5) (e.trans (Ex.new h1)) (.lst upd_same (h4.up (Ex.new h1)))
/-- a new list, as data -/
theorem ed_new (h : Ew te Γ fun Γ' s => ∃ ds, s = .o (Ol ds) ∧ R Γ' (.list ds)) : Ed te Γ R :=
  ed_ew fun B0 H0 B σ H S Q q => h B0 H0 B σ H S Q fun Γ' s v B' H' ⟨ds, e1, hr⟩ => q Γ' s v B' H' ⟨_, by rw [e1]; exact ⟨ds, rfl, rfl⟩, hr⟩
theorem ew_ed {R : List Sv → Sv → Prop} (h : Ed te Γ fun Γ' d => R Γ' (.d d)) : Ew te Γ R := fun B0 H0 B σ H S Q q =>
  h B0 H0 B σ H S Q fun Γ' d v B' H' hr S' e i => q Γ' (.d d) v B' H' hr S' e i
theorem es_list (h : Ed te Γ fun Γ' d => ∃ ds, d = .list ds ∧ R' Γ' true ds) : Es te Γ R' := fun B0 H0 B σ H S Q q => h B0 H0 B σ H S Q fun Γ' d v B' H' ⟨ds, e1, hr⟩ S' e i => by
  subst e1
  cases i with
  | lst h1 h2 => exact q Γ' true ds _ _ B' H' hr S' e (S'.bh _ _ h1) h2
theorem es_tup (h : Ed te Γ fun Γ' d => ∃ ds, d = .tuple ds ∧ R' Γ' false ds) : Es te Γ R' := fun B0 H0 B σ H S Q q => h B0 H0 B σ H S Q fun Γ' d v B' H' ⟨ds, e1, hr⟩ S' e i => by
  subst e1
  cases i with
  | tup h1 h2 => exact q Γ' false ds _ _ B' H' hr S' e (S'.bh _ _ h1) h2
theorem Ed.imp {R' : List Sv → PyData → Prop} (h : Ed te Γ R) (f : ∀ Γ' d, R Γ' d → R' Γ' d) : Ed te Γ R' := fun B0 H0 B σ H S Q q =>
  h B0 H0 B σ H S Q fun Γ' d v B' H' hr => q Γ' d v B' H' (f _ _ hr)
theorem Ew.imp {R R' : List Sv → Sv → Prop} (h : Ew te Γ R) (f : ∀ Γ' d, R Γ' d → R' Γ' d) : Ew te Γ R' := fun B0 H0 B σ H S Q q =>
  h B0 H0 B σ H S Q fun Γ' d v B' H' hr => q Γ' d v B' H' (f _ _ hr)

theorem ed_var {i : Nat} {d : PyData} (h : Γ[i]? = some (.d d)) (q : R Γ d) : Ed (tVar i) Γ R := fun B0 H0 B σ H S Q k => by
  obtain ⟨v, h1, h2⟩ := S.dat h
  exact ⟨v, h1, k Γ d v B H q S (Ex.refl _) h2⟩
theorem ed_int {i : Int} (q : R Γ (.int i)) : Ed (tC (.int i)) Γ R := fun B0 H0 B σ H S Q k => k Γ _ _ B H q S (Ex.refl _) (.int i)
theorem ed_str {i : Str} (q : R Γ (.str i)) : Ed (tC (.str i)) Γ R := fun B0 H0 B σ H S Q k => k Γ _ _ B H q S (Ex.refl _) (.str i)
theorem ed_bl {i : Bool} (q : R Γ (.bool i)) : Ed (tC (.bl i)) Γ R := fun B0 H0 B σ H S Q k => k Γ _ _ B H q S (Ex.refl _) (.bl i)
theorem ed_non (q : R Γ .none) : Ed (tC .non) Γ R := fun B0 H0 B σ H S Q k => k Γ _ _ B H q S (Ex.refl _) .non
/-- an owned list, read on the spot -/
theorem es_own {i : Nat} {A : Addr → Prop} {ds : List PyData} (h : Γ[i]? = some (.o (Oa A ds))) (q : R' Γ true ds) : Es (tVar i) Γ R' := fun B0 H0 B σ H S Q k => by
  obtain ⟨a, o, h1, h2, h3, h4, _, vs, rfl, h5⟩ := S.own h
  exact ⟨_, h1, k Γ true ds a vs B H q S (Ex.refl _) h4 h5⟩
/-- an owned object is given away -/
theorem ew_own {R : List Sv → Sv → Prop} {i : Nat} {p : Ow} (h : Γ[i]? = some (.o p)) (q : R (Γ.set i .no) (.o p)) : Ew (tVar i) Γ R := fun B0 H0 B σ H S Q k => by
  obtain ⟨a, o, h1, h2, h3, h4, h5⟩ := S.own h
  refine ⟨_, h1, k _ _ _ B H q (S.drop i) (Ex.refl _) ⟨a, o, rfl, h2, h3, h4, h5, fun j r ej z => ?_⟩⟩
  have hi := lt_of_get h
  by_cases c : i = j
  · subst c; rw [List.getElem?_set_self hi] at ej; cases ej
  · rw [List.getElem?_set_ne c] at ej
    exact S.ap i j p r a c h ej h1 z

/-- the general step over two operands -/
theorem ed_op2 {r : R2} {R' : List Sv → PyData → PyData → Prop} (ha : Ed ta Γ fun Γ1 x => Ed tb Γ1 fun Γ2 y => R' Γ2 x y)
    (hr : ∀ B0 H0 Γ' B σ H x y v u, R' Γ' x y → Sl B0 H0 Γ' B σ H → Is B v x → Is B u y → ∀ Q : VK, (∀ Γ'' d w B' H', R Γ'' d → Sl B0 H0 Γ'' B' σ H' → Ex B B' → Is B' w d → Q w H') → r v u H Q) : Ed (tOp r ta tb) Γ R := fun B0 H0 B σ H S Q k =>
  ha B0 H0 B σ H S _ fun Γ1 x v B1 H1 h1 S1 e1 i1 => h1 B0 H0 B1 σ H1 S1 _ fun Γ2 y u B2 H2 h2 S2 e2 i2 =>
    hr B0 H0 Γ2 B2 σ H2 x y v u h2 S2 (i1.up e2) i2 Q fun Γ3 d w B3 H3 h3 S3 e3 i3 => k Γ3 d w B3 H3 h3 S3 ((e1.trans e2).trans e3) i3
theorem ew_op2 {R : List Sv → Sv → Prop} {r : R2} {R' : List Sv → PyData → PyData → Prop} (ha : Ed ta Γ fun Γ1 x => Ed tb Γ1 fun Γ2 y => R' Γ2 x y)
    (hr : ∀ B0 H0 Γ' B σ H x y v u, R' Γ' x y → Sl B0 H0 Γ' B σ H → Is B v x → Is B u y → ∀ Q : VK, (∀ Γ'' d w B' H', R Γ'' d → Sl B0 H0 Γ'' B' σ H' → Ex B B' → Rv B' H' H0 Γ'' σ w d → Q w H') → r v u H Q) : Ew (tOp r ta tb) Γ R := fun B0 H0 B σ H S Q k =>
  ha B0 H0 B σ H S _ fun Γ1 x v B1 H1 h1 S1 e1 i1 => h1 B0 H0 B1 σ H1 S1 _ fun Γ2 y u B2 H2 h2 S2 e2 i2 =>
    hr B0 H0 Γ2 B2 σ H2 x y v u h2 S2 (i1.up e2) i2 Q fun Γ3 d w B3 H3 h3 S3 e3 i3 => k Γ3 d w B3 H3 h3 S3 ((e1.trans e2).trans e3) i3

theorem is_int {B : Hp} {v : V} {i : Int} (h : Is B v (.int i)) : v = .int i := by cases h; rfl
theorem is_str {B : Hp} {v : V} {i : Str} (h : Is B v (.str i)) : v = .str i := by cases h; rfl
theorem is_bl {B : Hp} {v : V} {i : Bool} (h : Is B v (.bool i)) : v = .bl i := by cases h; rfl
theorem is_lst {B : Hp} {v : V} {ds : List PyData} (h : Is B v (.list ds)) : ∃ a vs, v = .ref a ∧ B a = some (.lst vs) ∧ IsAll B vs ds := by
  cases h with
  | lst h1 h2 => exact ⟨_, _, rfl, h1, h2⟩
theorem is_tup {B : Hp} {v : V} {ds : List PyData} (h : Is B v (.tuple ds)) : ∃ a vs, v = .ref a ∧ B a = some (.tup vs) ∧ IsAll B vs ds := by
  cases h with
  | tup h1 h2 => exact ⟨_, _, rfl, h1, h2⟩

/-- whole numbers in, one out -/
theorem ed_I0 {f : Int → Int → Int} (ha : Ed ta Γ fun Γ1 x => ∃ i, x = .int i ∧ Ed tb Γ1 fun Γ2 y => ∃ j, y = .int j ∧ R Γ2 (.int (f i j))) : Ed (tOp (rI0 fun i j => V.int (f i j)) ta tb) Γ R := fun B0 H0 B σ H S Q k =>
  ha B0 H0 B σ H S _ fun Γ1 x v B1 H1 ⟨i, ex, h1⟩ S1 e1 i1 => h1 B0 H0 B1 σ H1 S1 _ fun Γ2 y u B2 H2 ⟨j, ey, h2⟩ S2 e2 i2 => by
    subst ex ey
    exact ⟨i, j, is_int i1, is_int i2, k Γ2 _ _ B2 H2 h2 S2 (e1.trans e2) (.int _)⟩
theorem ed_I {C : Int → Int → Prop} {f : Int → Int → Int} (ha : Ed ta Γ fun Γ1 x => ∃ i, x = .int i ∧ Ed tb Γ1 fun Γ2 y => ∃ j, y = .int j ∧ C i j ∧ R Γ2 (.int (f i j))) : Ed (tOp (rI C fun i j => V.int (f i j)) ta tb) Γ R := fun B0 H0 B σ H S Q k =>
  ha B0 H0 B σ H S _ fun Γ1 x v B1 H1 ⟨i, ex, h1⟩ S1 e1 i1 => h1 B0 H0 B1 σ H1 S1 _ fun Γ2 y u B2 H2 ⟨j, ey, hc, h2⟩ S2 e2 i2 => by
    subst ex ey
    exact ⟨i, j, is_int i1, is_int i2, hc, k Γ2 _ _ B2 H2 h2 S2 (e1.trans e2) (.int _)⟩
theorem ed_B0 {f : Int → Int → Bool} (ha : Ed ta Γ fun Γ1 x => ∃ i, x = .int i ∧ Ed tb Γ1 fun Γ2 y => ∃ j, y = .int j ∧ R Γ2 (.bool (f i j))) : Ed (tOp (rI0 fun i j => V.bl (f i j)) ta tb) Γ R := fun B0 H0 B σ H S Q k =>
  ha B0 H0 B σ H S _ fun Γ1 x v B1 H1 ⟨i, ex, h1⟩ S1 e1 i1 => h1 B0 H0 B1 σ H1 S1 _ fun Γ2 y u B2 H2 ⟨j, ey, h2⟩ S2 e2 i2 => by
    subst ex ey
    exact ⟨i, j, is_int i1, is_int i2, k Γ2 _ _ B2 H2 h2 S2 (e1.trans e2) (.bl _)⟩
/-- == of two whole numbers, of two texts, of none and a number -/
inductive EqB : PyData → PyData → Bool → Prop
  | int (i j : Int) : EqB (.int i) (.int j) (decide (i = j))
  | str (i j : Str) : EqB (.str i) (.str j) (decide (i = j))
  | non (j : Int) : EqB .none (.int j) false
theorem EqB.of {B : Hp} {x y : PyData} {b : Bool} (h : EqB x y b) {v u : V} (hx : Is B v x) (hy : Is B u y) : scal v u = true ∧ decide (v = u) = b := by
  cases h with
  | int i j => cases hx; cases hy; exact ⟨rfl, by simp⟩
  | str i j => cases hx; cases hy; exact ⟨rfl, by simp⟩
  | non j => cases hx; cases hy; exact ⟨rfl, by simp⟩
theorem ed_eq (ha : Ed ta Γ fun Γ1 x => Ed tb Γ1 fun Γ2 y => ∃ b, EqB x y b ∧ R Γ2 (.bool b)) : Ed (tOp rEq ta tb) Γ R := fun B0 H0 B σ H S Q k =>
  ha B0 H0 B σ H S _ fun Γ1 x v B1 H1 h1 S1 e1 i1 => h1 B0 H0 B1 σ H1 S1 _ fun Γ2 y u B2 H2 ⟨b, he, h2⟩ S2 e2 i2 => by
    obtain ⟨p, q⟩ := he.of (i1.up e2) i2
    exact ⟨p, by rw [q]; exact k Γ2 _ _ B2 H2 h2 S2 (e1.trans e2) (.bl _)⟩
theorem ed_ne (ha : Ed ta Γ fun Γ1 x => Ed tb Γ1 fun Γ2 y => ∃ b, EqB x y b ∧ R Γ2 (.bool (!b))) : Ed (tOp rNe ta tb) Γ R := fun B0 H0 B σ H S Q k =>
  ha B0 H0 B σ H S _ fun Γ1 x v B1 H1 h1 S1 e1 i1 => h1 B0 H0 B1 σ H1 S1 _ fun Γ2 y u B2 H2 ⟨b, he, h2⟩ S2 e2 i2 => by
    obtain ⟨p, q⟩ := he.of (i1.up e2) i2
    exact ⟨p, by rw [q]; exact k Γ2 _ _ B2 H2 h2 S2 (e1.trans e2) (.bl _)⟩
/-- data compared -/
theorem ed_eqD (ha : Ed ta Γ fun Γ1 x => Ed tb Γ1 fun Γ2 y => SeqAt.shaped x = true ∧ SeqAt.shaped y = true ∧ R Γ2 (.bool (PyData.eqv x y))) : Ed (tOp (rEqD K) ta tb) Γ R := fun B0 H0 B σ H S Q k =>
  ha B0 H0 B σ H S _ fun Γ1 x v B1 H1 h1 S1 e1 i1 => h1 B0 H0 B1 σ H1 S1 _ fun Γ2 y u B2 H2 ⟨hx, hy, h2⟩ S2 e2 i2 =>
    ⟨x, y, Is.dp K x v ((i1.up e2).up S2.bh), Is.dp K y u (i2.up S2.bh), hx, hy, k Γ2 _ _ B2 H2 h2 S2 (e1.trans e2) (.bl _)⟩
theorem ed_neD (ha : Ed ta Γ fun Γ1 x => Ed tb Γ1 fun Γ2 y => SeqAt.shaped x = true ∧ SeqAt.shaped y = true ∧ R Γ2 (.bool (!PyData.eqv x y))) : Ed (tOp (rNeD K) ta tb) Γ R := fun B0 H0 B σ H S Q k =>
  ha B0 H0 B σ H S _ fun Γ1 x v B1 H1 h1 S1 e1 i1 => h1 B0 H0 B1 σ H1 S1 _ fun Γ2 y u B2 H2 ⟨hx, hy, h2⟩ S2 e2 i2 =>
    ⟨x, y, Is.dp K x v ((i1.up e2).up S2.bh), Is.dp K y u (i2.up S2.bh), hx, hy, k Γ2 _ _ B2 H2 h2 S2 (e1.trans e2) (.bl _)⟩
/-- an owned list against [] -/
theorem ed_neOwn {i : Nat} {A : Addr → Prop} {ds : List PyData} (h : Γ[i]? = some (.o (Oa A ds))) (hs : SeqAt.shaped (.list ds) = true) (q : R Γ (.bool (!ds.isEmpty))) : Ed (tOp (rNeD K) (tVar i) (tLst tNil)) Γ R := fun B0 H0 B σ H S Q k => by
  obtain ⟨a, o, h1, h2, h3, h4, _, vs, rfl, h5⟩ := S.own h
  refine ⟨_, h1, Nat.zero_le _, fun p hp => ?_⟩
  have g := Grow.new' (o := .lst []) S.bh hp
  have e : PyData.eqv (.list ds) (.list []) = ds.isEmpty := by
    cases ds with
    | nil => simp [PyData.eqv, PyData.eqvAll]
    | cons x r => simp [PyData.eqv, PyData.eqvAll]
  refine ⟨.list ds, .list [], Is.dp K _ _ (.lst (g.h _ _ h4) ((h5.up S.bh).up g.h)), Is.dp K _ _ (.lst upd_same .nil), hs, by decide, ?_⟩
  rw [e]
  exact k Γ _ _ B _ q (S.grow g) (Ex.refl _) (.bl _)

/-! indexing -/
theorem ed_ixT (ha : Ed ta Γ fun Γ1 x => ∃ ds, x = .tuple ds ∧ Ed tb Γ1 fun Γ2 y => ∃ i d, y = .int i ∧ atI ds i = some d ∧ R Γ2 d) : Ed (tOp (rIxT K) ta tb) Γ R := fun B0 H0 B σ H S Q k =>
  ha B0 H0 B σ H S _ fun Γ1 x v B1 H1 ⟨ds, ex, h1⟩ S1 e1 i1 => h1 B0 H0 B1 σ H1 S1 _ fun Γ2 y u B2 H2 ⟨i, d, ey, hd, h2⟩ S2 e2 i2 => by
    subst ex ey
    obtain ⟨a, vs, rfl, g1, g2⟩ := is_tup (i1.up e2)
    obtain ⟨w, g3, g4⟩ := g2.atI hd
    exact ⟨a, vs, i, w, rfl, is_int i2, SqT.of (S2.bh _ _ g1), g3, k Γ2 d w B2 H2 h2 S2 (e1.trans e2) g4⟩
theorem ed_ixL (ha : Ed ta Γ fun Γ1 x => ∃ ds, x = .list ds ∧ Ed tb Γ1 fun Γ2 y => ∃ i d, y = .int i ∧ atI ds i = some d ∧ R Γ2 d) : Ed (tOp (rIxL K) ta tb) Γ R := fun B0 H0 B σ H S Q k =>
  ha B0 H0 B σ H S _ fun Γ1 x v B1 H1 ⟨ds, ex, h1⟩ S1 e1 i1 => h1 B0 H0 B1 σ H1 S1 _ fun Γ2 y u B2 H2 ⟨i, d, ey, hd, h2⟩ S2 e2 i2 => by
    subst ex ey
    obtain ⟨a, vs, rfl, g1, g2⟩ := is_lst (i1.up e2)
    obtain ⟨w, g3, g4⟩ := g2.atI hd
    exact ⟨a, vs, i, w, rfl, is_int i2, SqL.of (S2.bh _ _ g1), g3, k Γ2 d w B2 H2 h2 S2 (e1.trans e2) g4⟩
/-- an owned list's item -/
theorem ed_ixO {i : Nat} (hb : ∃ p, Γ[i]? = some (.o p)) (h : Ed tb Γ fun Γ2 y => ∃ A ds j d, Γ2[i]? = some (.o (Oa A ds)) ∧ y = .int j ∧ atI ds j = some d ∧ R Γ2 d) : Ed (tOp (rIxL K) (tVar i) tb) Γ R := fun B0 H0 B σ H S Q k => by
  obtain ⟨p, hp⟩ := hb
  obtain ⟨a, o, h1, _⟩ := S.own hp
  refine ⟨_, h1, h B0 H0 B σ H S _ fun Γ2 y u B2 H2 ⟨A, ds, j, d, e, ey, hd, h2⟩ S2 e2 i2 => ?_⟩
  subst ey
  obtain ⟨a', o', g1, g2, g3, g4, _, vs, rfl, g5⟩ := S2.own e
  rw [h1] at g1
  cases g1
  obtain ⟨w, q3, q4⟩ := g5.atI hd
  exact ⟨a, vs, j, w, rfl, is_int i2, SqL.of g4, q3, k Γ2 d w B2 H2 h2 S2 e2 q4⟩
theorem ed_ixS (ha : Ed ta Γ fun Γ1 x => ∃ z : Str, x = .str z ∧ z.length ≤ sizeLine ∧ Ed tb Γ1 fun Γ2 y => ∃ i c, y = .int i ∧ atI z.cps.toList i = some c ∧ R Γ2 (.str ⟨#[c]⟩)) : Ed (tOp rIxS ta tb) Γ R := fun B0 H0 B σ H S Q k =>
  ha B0 H0 B σ H S _ fun Γ1 x v B1 H1 ⟨z, ex, hz, h1⟩ S1 e1 i1 => h1 B0 H0 B1 σ H1 S1 _ fun Γ2 y u B2 H2 ⟨i, d, ey, hd, h2⟩ S2 e2 i2 => by
    subst ex ey
    exact ⟨z, i, d, is_str i1, is_int i2, hz, hd, k Γ2 _ _ B2 H2 h2 S2 (e1.trans e2) (.str _)⟩

/-! argument lists, displays -/
theorem ea_nil {R : List Sv → List PyData → Prop} (q : R Γ []) : Ea tNil Γ R := fun B0 H0 B σ H S Q k => k Γ [] [] B H q S (Ex.refl _) .nil
theorem ea_cons {R : List Sv → List PyData → Prop} (h : Ed te Γ fun Γ1 x => Ea tas Γ1 fun Γ2 ds => R Γ2 (x :: ds)) : Ea (tCons te tas) Γ R := fun B0 H0 B σ H S Q k =>
  h B0 H0 B σ H S _ fun Γ1 x v B1 H1 h1 S1 e1 i1 => h1 B0 H0 B1 σ H1 S1 _ fun Γ2 ds vs B2 H2 h2 S2 e2 i2 => k Γ2 _ _ B2 H2 h2 S2 (e1.trans e2) (.cons (i1.up e2) i2)
theorem ed_tup (h : Ea tas Γ fun Γ1 ds => ds.length ≤ sizeLine ∧ R Γ1 (.tuple ds)) : Ed (tTup tas) Γ R := fun B0 H0 B σ H S Q k =>
  h B0 H0 B σ H S _ fun Γ1 ds vs B1 H1 ⟨hz, h1⟩ S1 e1 i1 => ⟨by rw [i1.len]; exact hz, fun p hp =>
    let g := Grow.new (o := .tup vs) S1.bh hp
    k Γ1 _ _ _ _ h1 (S1.grow g) (e1.trans g.b) (.tup upd_same (i1.up g.b))⟩
theorem nown_new {B0 H0 B : Hp} {σ : L2.St} {H : Hp} {p : Addr} (S : Sl B0 H0 Γ B σ H) (hp : H p = none) : NoOwn Γ σ p := fun i q e z => by
  obtain ⟨a, o, h1, _, _, h4, _⟩ := S.own e
  rw [h1] at z
  cases z
  rw [hp] at h4
  cases h4
/-- a new list stands: as a value -/
theorem Sl.made {B0 H0 B : Hp} {σ : L2.St} {H : Hp} {p : Addr} {vs : List V} {ds : List PyData} (S : Sl B0 H0 Γ B σ H) (hp : H p = none) (h : IsAll B vs ds) :
    Sl B0 H0 Γ B σ (upd H p (.lst vs)) ∧ Rv B (upd H p (.lst vs)) H0 Γ σ (.ref p) (.o (Ol ds)) :=
  ⟨S.grow (Grow.new' S.bh hp), p, _, rfl, S.bh.free hp, S.h0.free hp, upd_same, ⟨True.intro, vs, rfl, h⟩, nown_new S hp⟩
theorem ew_lst {R : List Sv → Sv → Prop} (h : Ea tas Γ fun Γ1 ds => ds.length ≤ sizeLine ∧ R Γ1 (.o (Ol ds))) : Ew (tLst tas) Γ R := fun B0 H0 B σ H S Q k =>
  h B0 H0 B σ H S _ fun Γ1 ds vs B1 H1 ⟨hz, h1⟩ S1 e1 i1 => ⟨by rw [i1.len]; exact hz, fun p hp =>
    let g := S1.made hp i1
    k Γ1 _ _ _ _ h1 g.1 e1 g.2⟩

/-! ### tests -/
theorem et_test {R : List Sv → Bool → Prop} (h : Ed te Γ fun Γ1 x => ∃ b, x = .bool b ∧ R Γ1 b) : Et (tTest te) Γ R := fun B0 H0 B σ H S Q k =>
  h B0 H0 B σ H S _ fun Γ1 x v B1 H1 ⟨b, ex, h1⟩ S1 e1 i1 => by subst ex; exact ⟨b, is_bl i1, k Γ1 b B1 H1 h1 S1 e1⟩
theorem et_B {R : List Sv → Bool → Prop} (h : Ed te Γ fun Γ1 x => ∃ b, x = .bool b ∧ R Γ1 b) : Et (tB te) Γ R := fun B0 H0 B σ H S Q k =>
  h B0 H0 B σ H S _ fun Γ1 x v B1 H1 ⟨b, ex, h1⟩ S1 e1 i1 => by subst ex; exact ⟨b, is_bl i1, k Γ1 b B1 H1 h1 S1 e1⟩
theorem et_not {R : List Sv → Bool → Prop} (h : Et tt Γ fun Γ1 b => R Γ1 (!b)) : Et (tNot tt) Γ R := fun B0 H0 B σ H S Q k =>
  h B0 H0 B σ H S _ fun Γ1 b B1 H1 h1 S1 e1 => k Γ1 _ B1 H1 h1 S1 e1
theorem et_and {R : List Sv → Bool → Prop} (h : Et tt Γ fun Γ1 b => (b = true → Et tu Γ1 R) ∧ (b = false → R Γ1 false)) : Et (tAnd tt tu) Γ R := fun B0 H0 B σ H S Q k =>
  h B0 H0 B σ H S _ fun Γ1 b B1 H1 h1 S1 e1 => by
    cases b with
    | true =>
      show tu σ H1 Q
      exact h1.1 rfl B0 H0 B1 σ H1 S1 _ fun Γ2 b B2 H2 h2 S2 e2 => k Γ2 b B2 H2 h2 S2 (e1.trans e2)
    | false =>
      show Q false H1
      exact k Γ1 _ B1 H1 (h1.2 rfl) S1 e1
theorem et_or {R : List Sv → Bool → Prop} (h : Et tt Γ fun Γ1 b => (b = false → Et tu Γ1 R) ∧ (b = true → R Γ1 true)) : Et (tOr tt tu) Γ R := fun B0 H0 B σ H S Q k =>
  h B0 H0 B σ H S _ fun Γ1 b B1 H1 h1 S1 e1 => by
    cases b with
    | false =>
      show tu σ H1 Q
      exact h1.1 rfl B0 H0 B1 σ H1 S1 _ fun Γ2 b B2 H2 h2 S2 e2 => k Γ2 b B2 H2 h2 S2 (e1.trans e2)
    | true =>
      show Q true H1
      exact k Γ1 _ B1 H1 (h1.2 rfl) S1 e1
theorem ed_andV (h : Ed ta Γ fun Γ1 x => ∃ b, x = .bool b ∧ (b = true → Ed tb Γ1 R) ∧ (b = false → R Γ1 (.bool false))) : Ed (tAndV ta tb) Γ R := fun B0 H0 B σ H S Q k =>
  h B0 H0 B σ H S _ fun Γ1 x v B1 H1 ⟨b, ex, h1⟩ S1 e1 i1 => by
    subst ex
    refine ⟨b, is_bl i1, ?_⟩
    cases b with
    | true =>
      show tb σ H1 Q
      exact h1.1 rfl B0 H0 B1 σ H1 S1 _ fun Γ2 d v B2 H2 h2 S2 e2 => k Γ2 d v B2 H2 h2 S2 (e1.trans e2)
    | false =>
      show Q (.bl false) H1
      exact k Γ1 _ _ B1 H1 (h1.2 rfl) S1 e1 (.bl _)
end
end G

/-! ## part 2 -/
set_option Elab.async false
set_option linter.all false
set_option maxRecDepth 100000
set_option maxHeartbeats 1000000
/-! F2: statements, targets, loops, comprehensions, calls, promises. -/
namespace G
open PySem PySem.Spec PyProof.Rows L2

def Sw (t : TS) (Γ : List Sv) (Nx : List Sv → Prop) (Rt : List Sv → Sv → Prop) (Bk Ct : List Sv → Prop) : Prop := ∀ B0 H0 B σ H (D : Ends), Sl B0 H0 Γ B σ H →
  (∀ Γ' B' σ' H', Nx Γ' → Sl B0 H0 Γ' B' σ' H' → Ex B B' → D.nx σ' H') →
  (∀ Γ' s v B' σ' H', Rt Γ' s → Sl B0 H0 Γ' B' σ' H' → Ex B B' → Rv B' H' H0 Γ' σ' v s → D.rt v H') →
  (∀ Γ' B' σ' H', Bk Γ' → Sl B0 H0 Γ' B' σ' H' → Ex B B' → D.bk σ' H') →
  (∀ Γ' B' σ' H', Ct Γ' → Sl B0 H0 Γ' B' σ' H' → Ex B B' → D.ct σ' H') → t D σ H
def Sg (g : TG) (d : PyData) (Γ : List Sv) (R : List Sv → Prop) : Prop := ∀ B0 H0 B σ H v, Sl B0 H0 Γ B σ H → Is B v d → ∀ Q : L2.St → Hp → Prop,
  (∀ Γ' B' σ' H', R Γ' → Sl B0 H0 Γ' B' σ' H' → Ex B B' → Q σ' H') → g v σ H Q
def Sgs (g : TGs) (ds : List PyData) (Γ : List Sv) (R : List Sv → Prop) : Prop := ∀ B0 H0 B σ H vs, Sl B0 H0 Γ B σ H → IsAll B vs ds → ∀ Q : L2.St → Hp → Prop,
  (∀ Γ' B' σ' H', R Γ' → Sl B0 H0 Γ' B' σ' H' → Ex B B' → Q σ' H') → g vs σ H Q
/-- the iterator gives the items ds -/
def Gv (J : It) (ds : List PyData) (B : Hp) : Prop := ∀ B1 H (i : Nat), Ex B B1 → Ex B1 H →
  (∀ d, ds[i]? = some d → J.go i H ∧ ∀ x H', J.yld i H x H' → ∃ B', Grow B1 H B' H' ∧ Is B' x d) ∧ (ds.length ≤ i → J.stop i H)
def Iw (wi : TI) (Γ : List Sv) (R : List Sv → List PyData → Prop) : Prop := ∀ B0 H0 B σ H, Sl B0 H0 Γ B σ H → ∀ Q : It → Hp → Prop,
  (∀ Γ' ds J B' H', R Γ' ds → Sl B0 H0 Γ' B' σ H' → Ex B B' → Gv J ds B' → Q J H') → wi σ H Q

section
variable {Γ : List Sv} {te ta tb tc : TE} {tt tu : TT} {tas : TA} {K : PySem.W.Frag} {R : List Sv → PyData → Prop} {t u : TS} {g : TG} {gs : TGs}
  {Nx Bk Ct : List Sv → Prop} {Rt : List Sv → Sv → Prop} {i : Nat}

theorem sw_seq (h : Sw t Γ (fun Γ1 => Sw u Γ1 Nx Rt Bk Ct) Rt Bk Ct) : Sw (tSeq t u) Γ Nx Rt Bk Ct := fun B0 H0 B σ H D S n r b c =>
  h B0 H0 B σ H { D with nx := u D } S (fun Γ1 B1 σ1 H1 h1 S1 e1 => h1 B0 H0 B1 σ1 H1 D S1 (fun Γ2 B2 σ2 H2 h2 S2 e2 => n Γ2 B2 σ2 H2 h2 S2 (e1.trans e2))
    (fun Γ2 s v B2 σ2 H2 h2 S2 e2 => r Γ2 s v B2 σ2 H2 h2 S2 (e1.trans e2)) (fun Γ2 B2 σ2 H2 h2 S2 e2 => b Γ2 B2 σ2 H2 h2 S2 (e1.trans e2)) (fun Γ2 B2 σ2 H2 h2 S2 e2 => c Γ2 B2 σ2 H2 h2 S2 (e1.trans e2))) r b c
theorem sw_next (q : Nx Γ) : Sw tNext Γ Nx Rt Bk Ct := fun B0 H0 B σ H D S n r b c => n Γ B σ H q S (Ex.refl _)
theorem Sw.imp {Nx' : List Sv → Prop} (h : Sw t Γ Nx' Rt Bk Ct) (f : ∀ Γ', Nx' Γ' → Nx Γ') : Sw t Γ Nx Rt Bk Ct := fun B0 H0 B σ H D S n r b c => h B0 H0 B σ H D S (fun Γ' B' σ' H' h' => n Γ' B' σ' H' (f _ h')) r b c
theorem sw_if (h : Et tt Γ fun Γ1 b => (b = true → Sw t Γ1 Nx Rt Bk Ct) ∧ (b = false → Sw u Γ1 Nx Rt Bk Ct)) : Sw (tIfS tt t u) Γ Nx Rt Bk Ct := fun B0 H0 B σ H D S n r b c =>
  h B0 H0 B σ H S _ fun Γ1 k B1 H1 h1 S1 e1 => by
    cases k with
    | true =>
      show t D σ H1
      exact h1.1 rfl B0 H0 B1 σ H1 D S1 (fun Γ2 B2 σ2 H2 h2 S2 e2 => n Γ2 B2 σ2 H2 h2 S2 (e1.trans e2))
        (fun Γ2 s v B2 σ2 H2 h2 S2 e2 => r Γ2 s v B2 σ2 H2 h2 S2 (e1.trans e2)) (fun Γ2 B2 σ2 H2 h2 S2 e2 => b Γ2 B2 σ2 H2 h2 S2 (e1.trans e2)) (fun Γ2 B2 σ2 H2 h2 S2 e2 => c Γ2 B2 σ2 H2 h2 S2 (e1.trans e2))
    | false =>
      show u D σ H1
      exact h1.2 rfl B0 H0 B1 σ H1 D S1 (fun Γ2 B2 σ2 H2 h2 S2 e2 => n Γ2 B2 σ2 H2 h2 S2 (e1.trans e2))
        (fun Γ2 s v B2 σ2 H2 h2 S2 e2 => r Γ2 s v B2 σ2 H2 h2 S2 (e1.trans e2)) (fun Γ2 B2 σ2 H2 h2 S2 e2 => b Γ2 B2 σ2 H2 h2 S2 (e1.trans e2)) (fun Γ2 B2 σ2 H2 h2 S2 e2 => c Γ2 B2 σ2 H2 h2 S2 (e1.trans e2))
theorem sw_ret (h : Ew te Γ Rt) : Sw (tRet te) Γ Nx Rt Bk Ct := fun B0 H0 B σ H D S n r b c =>
  h B0 H0 B σ H S _ fun Γ1 s v B1 H1 h1 S1 e1 i1 => r Γ1 s v B1 σ H1 h1 S1 e1 i1
theorem sw_retd (h : Ed te Γ fun Γ1 d => Rt Γ1 (.d d)) : Sw (tRet te) Γ Nx Rt Bk Ct := sw_ret (ew_ed h)
theorem sw_drop (h : Ed te Γ fun Γ1 _ => Nx Γ1) : Sw (tDrop te) Γ Nx Rt Bk Ct := fun B0 H0 B σ H D S n r b c =>
  h B0 H0 B σ H S _ fun Γ1 s v B1 H1 h1 S1 e1 i1 => n Γ1 B1 σ H1 h1 S1 e1

/-! ### targets -/
theorem sg_name {d : PyData} {R : List Sv → Prop} (hi : i < Γ.length) (q : R (Γ.set i (.d d))) : Sg (gName i) d Γ R := fun B0 H0 B σ H v S h Q k => k _ B _ H q (S.put hi h) (Ex.refl _)
theorem sgs_nil {R : List Sv → Prop} (q : R Γ) : Sgs gNil [] Γ R := fun B0 H0 B σ H vs S h Q k => by
  cases h
  exact ⟨rfl, k Γ B σ H q S (Ex.refl _)⟩
theorem sgs_cons {d : PyData} {ds : List PyData} {R : List Sv → Prop} (h : Sg g d Γ fun Γ1 => Sgs gs ds Γ1 R) : Sgs (gCons g gs) (d :: ds) Γ R := fun B0 H0 B σ H vs S hv Q k => by
  cases hv with
  | cons h1 h2 => exact ⟨_, _, rfl, h B0 H0 B σ H _ S h1 _ fun Γ1 B1 σ1 H1 r1 S1 e1 => r1 B0 H0 B1 σ1 H1 _ S1 (h2.up e1) Q fun Γ2 B2 σ2 H2 r2 S2 e2 => k Γ2 B2 σ2 H2 r2 S2 (e1.trans e2)⟩
theorem sg_tup {n : Nat} {d : PyData} {R : List Sv → Prop} (h : ∃ ds, d = .tuple ds ∧ ds.length = n ∧ Sgs gs ds Γ R) : Sg (gTup K n gs) d Γ R := fun B0 H0 B σ H v S hv Q k => by
  obtain ⟨ds, rfl, hl, h⟩ := h
  obtain ⟨a, vs, rfl, h1, h2⟩ := is_tup hv
  exact ⟨a, vs, rfl, SqT.of (S.bh _ _ h1), by rw [h2.len]; exact hl, h B0 H0 B σ H vs S h2 Q k⟩
theorem sg_unl {n : Nat} {d : PyData} {R : List Sv → Prop} (h : ∃ ds, d = .list ds ∧ ds.length = n ∧ Sgs gs ds Γ R) : Sg (gUnl K n gs) d Γ R := fun B0 H0 B σ H v S hv Q k => by
  obtain ⟨ds, rfl, hl, h⟩ := h
  obtain ⟨a, vs, rfl, h1, h2⟩ := is_lst hv
  exact ⟨a, vs, rfl, SqL.of (S.bh _ _ h1), by rw [h2.len]; exact hl, h B0 H0 B σ H vs S h2 Q k⟩
theorem sw_asg (h : Ed te Γ fun Γ1 d => Sg g d Γ1 Nx) : Sw (tAsg te g) Γ Nx Rt Bk Ct := fun B0 H0 B σ H D S n r b c =>
  h B0 H0 B σ H S _ fun Γ1 d v B1 H1 h1 S1 e1 i1 => h1 B0 H0 B1 σ H1 v S1 i1 _ fun Γ2 B2 σ2 H2 r2 S2 e2 => n Γ2 B2 σ2 H2 r2 S2 (e1.trans e2)
theorem sw_set (h : Ed te Γ fun Γ1 d => i < Γ1.length ∧ Nx (Γ1.set i (.d d))) : Sw (tAsg te (gName i)) Γ Nx Rt Bk Ct := sw_asg (h.imp fun _ _ ⟨h1, h2⟩ => sg_name h1 h2)
theorem sw_setO (h : Ew te Γ fun Γ1 s => ∃ p, s = .o p ∧ i < Γ1.length ∧ Nx (Γ1.set i (.o p))) : Sw (tAsg te (gName i)) Γ Nx Rt Bk Ct := fun B0 H0 B σ H D S n r b c =>
  h B0 H0 B σ H S _ fun Γ1 s v B1 H1 ⟨p, es, hi, h1⟩ S1 e1 i1 => by
    subst es
    obtain ⟨a, o, rfl, g1, g2, g3, g4, g5⟩ := i1
    exact n _ B1 _ H1 h1 (S1.take hi g1 g2 g3 g4 g5) e1

/-! ### an owned list changed -/
theorem sw_app (h0 : ∃ A ds, Γ[i]? = some (.o (Oa A ds))) (h : Ed te Γ fun Γ1 d => ∃ A ds, Γ1[i]? = some (.o (Oa A ds)) ∧ ds.length < sizeLine ∧ Nx (Γ1.set i (.o (Oa A (ds ++ [d]))))) :
    Sw (tDrop (tBM K "list" rAppend (tVar i) (tCons te tNil))) Γ Nx Rt Bk Ct := fun B0 H0 B σ H D S n r b c => by
  obtain ⟨A0, ds0, e0⟩ := h0
  obtain ⟨a, o, h1, h2, h3, h4, _, vs, rfl, h5⟩ := S.own e0
  refine ⟨_, h1, .inl ⟨rfl, _, SqL.of h4⟩, h B0 H0 B σ H S _ fun Γ1 d v B1 H1 ⟨A, ds, e, hz, hn⟩ S1 e1 i1 => ?_⟩
  obtain ⟨a', o', g1, g2, g3, g4, g0, ws, rfl, g5⟩ := S1.own e
  rw [h1] at g1
  cases g1
  exact ⟨a, ws, v, rfl, rfl, g4, by rw [g5.len]; exact hz, n _ B1 _ _ hn (S1.write e h1 ⟨g0, _, rfl, g5.app (.cons i1 .nil)⟩) e1⟩
theorem sw_ext (h0 : ∃ A ds, Γ[i]? = some (.o (Oa A ds))) (h : Ed te Γ fun Γ1 d => ∃ es A ds, d = .list es ∧ Γ1[i]? = some (.o (Oa A ds)) ∧ ds.length + es.length ≤ sizeLine ∧ Nx (Γ1.set i (.o (Oa A (ds ++ es))))) :
    Sw (tDrop (tBM K "list" rExtend (tVar i) (tCons te tNil))) Γ Nx Rt Bk Ct := fun B0 H0 B σ H D S n r b c => by
  obtain ⟨A0, ds0, e0⟩ := h0
  obtain ⟨a, o, h1, h2, h3, h4, _, vs, rfl, h5⟩ := S.own e0
  refine ⟨_, h1, .inl ⟨rfl, _, SqL.of h4⟩, h B0 H0 B σ H S _ fun Γ1 d v B1 H1 ⟨es, A, ds, ed, e, hz, hn⟩ S1 e1 i1 => ?_⟩
  subst ed
  obtain ⟨a', o', g1, g2, g3, g4, g0, ws, rfl, g5⟩ := S1.own e
  rw [h1] at g1
  cases g1
  obtain ⟨b', us, rfl, k1, k2⟩ := is_lst i1
  exact ⟨a, b', ws, us, rfl, rfl, g4, S1.bh _ _ k1, by rw [g5.len, k2.len]; exact hz, n _ B1 _ _ hn (S1.write e h1 ⟨g0, _, rfl, g5.app k2⟩) e1⟩
def rInsert : V → List V → Hp → VK → Prop := fun x vs H Q => ∃ (l : Addr) (xs : List V) (i : Int) (y : V), x = .ref l ∧ vs = [.int i, y] ∧ H l = some (.lst xs) ∧ xs.length < sizeLine ∧ 0 ≤ i ∧ i < 2 ^ 63 ∧
    Q .non (upd H l (.lst (xs.take i.toNat ++ [y] ++ xs.drop i.toNat)))
theorem sw_ins (h0 : ∃ A ds, Γ[i]? = some (.o (Oa A ds))) (h : Ea tas Γ fun Γ1 xs => ∃ k d A ds, xs = [.int k, d] ∧ Γ1[i]? = some (.o (Oa A ds)) ∧ ds.length < sizeLine ∧ 0 ≤ k ∧ k < 2 ^ 63 ∧ Nx (Γ1.set i (.o (Oa A (ds.take k.toNat ++ [d] ++ ds.drop k.toNat))))) :
    Sw (tDrop (tBM K "list" rInsert (tVar i) tas)) Γ Nx Rt Bk Ct := fun B0 H0 B σ H D S n r b c => by
  obtain ⟨A0, ds0, e0⟩ := h0
  obtain ⟨a, o, h1, h2, h3, h4, _, vs, rfl, h5⟩ := S.own e0
  refine ⟨_, h1, .inl ⟨rfl, _, SqL.of h4⟩, h B0 H0 B σ H S _ fun Γ1 xs us B1 H1 ⟨k, d, A, ds, exs, e, hz, hk0, hk1, hn⟩ S1 e1 i1 => ?_⟩
  subst exs
  obtain ⟨a', o', g1, g2, g3, g4, g0, ws, rfl, g5⟩ := S1.own e
  rw [h1] at g1
  cases g1
  cases i1 with
  | cons r1 i1 =>
    cases i1 with
    | cons r2 i1 =>
      cases i1
      cases r1
      exact ⟨a, ws, k, _, rfl, rfl, g4, by rw [g5.len]; exact hz, hk0, hk1, n _ B1 _ _ hn (S1.write e h1 ⟨g0, _, rfl, ((g5.take _).app (.cons r2 .nil)).app (g5.drop _)⟩) e1⟩
/-- x = xs.pop() as a value -/
theorem ed_pop {A : Addr → Prop} {ds : List PyData} {d : PyData} (e0 : Γ[i]? = some (.o (Oa A (ds ++ [d])))) (q : R (Γ.set i (.o (Oa A ds))) d) : Ed (tBM0 K "list" rPop (tVar i)) Γ R := fun B0 H0 B σ H S Q k => by
  obtain ⟨a, o, h1, h2, h3, h4, h0, vs, rfl, h5⟩ := S.own e0
  have hl : vs.length = ds.length + 1 := by rw [h5.len]; simp
  have hg : (ds ++ [d])[vs.length - 1]? = some d := by rw [hl]; simp
  obtain ⟨v, g1, g2⟩ := h5.get hg
  have hd : IsAll B vs.dropLast ds := by
    have := h5.dropLast
    rw [List.dropLast_concat] at this
    exact this
  exact ⟨_, h1, .inl ⟨rfl, _, SqL.of h4⟩, a, vs, v, rfl, rfl, h4, g1, k _ _ _ B _ q (S.write e0 h1 ⟨h0, _, rfl, hd⟩) (Ex.refl _) g2⟩
/-- xs[k] = e -/
theorem sw_sub (h : Ed te Γ fun Γ1 d => (∃ p, Γ1[i]? = some (.o p)) ∧ Ed tb Γ1 fun Γ2 y => ∃ A ds j k, Γ2[i]? = some (.o (Oa A ds)) ∧ y = .int k ∧ ixN ds.length k = some j ∧ Nx (Γ2.set i (.o (Oa A (ds.set j d))))) :
    Sw (tAsg te (gSub (tVar i) tb rSetL)) Γ Nx Rt Bk Ct := fun B0 H0 B σ H D S n r b c =>
  h B0 H0 B σ H S _ fun Γ1 d v B1 H1 ⟨⟨p, hp⟩, h1⟩ S1 e1 i1 => by
    obtain ⟨a, o, g1, _⟩ := S1.own hp
    refine ⟨_, g1, h1 B0 H0 B1 σ H1 S1 _ fun Γ2 y w B2 H2 ⟨A, ds, j, k, e, ey, hj, hn⟩ S2 e2 i2 => ?_⟩
    subst ey
    obtain ⟨a', o', k1, k2, k3, k4, k0, ws, rfl, k5⟩ := S2.own e
    rw [g1] at k1
    cases k1
    exact ⟨a, ws, k, j, rfl, is_int i2, k4, by rw [k5.len]; exact hj, n _ B2 _ _ hn (S2.write e g1 ⟨k0, _, rfl, IsAll.set (i1.up e2) j k5⟩) (e1.trans e2)⟩

/-! ### what is walked -/
theorem iw_list (h : Ed te Γ fun Γ1 d => ∃ ds, d = .list ds ∧ R' Γ1 ds) : Iw (iList K te) Γ R' := fun B0 H0 B σ H S Q k =>
  h B0 H0 B σ H S _ fun Γ1 d v B1 H1 ⟨ds, ed, h1⟩ S1 e1 i1 => by
    subst ed
    obtain ⟨a, vs, rfl, g1, g2⟩ := is_lst i1
    refine ⟨a, rfl, ⟨vs, SqL.of (S1.bh _ _ g1)⟩, k Γ1 ds _ B1 H1 h1 S1 e1 fun B2 H2 j e2 e3 => ⟨fun d hd => ?_, fun hl => ⟨vs, SqL.of (e3 _ _ (e2 _ _ g1)), by rw [g2.len]; exact hl⟩⟩⟩
    obtain ⟨w, q1, q2⟩ := g2.get hd
    refine ⟨⟨vs, w, SqL.of (e3 _ _ (e2 _ _ g1)), q1⟩, fun x H' hy => ?_⟩
    obtain ⟨rfl, hy⟩ := hy
    have q3 := hy vs (SqL.of (e3 _ _ (e2 _ _ g1)))
    rw [q1] at q3
    cases q3
    exact ⟨B2, Grow.refl e3, q2.up e2⟩
theorem iw_tup (h : Ed te Γ fun Γ1 d => ∃ ds, d = .tuple ds ∧ R' Γ1 ds) : Iw (iTup K te) Γ R' := fun B0 H0 B σ H S Q k =>
  h B0 H0 B σ H S _ fun Γ1 d v B1 H1 ⟨ds, ed, h1⟩ S1 e1 i1 => by
    subst ed
    obtain ⟨a, vs, rfl, g1, g2⟩ := is_tup i1
    refine ⟨a, rfl, ⟨vs, SqT.of (S1.bh _ _ g1)⟩, k Γ1 ds _ B1 H1 h1 S1 e1 fun B2 H2 j e2 e3 => ⟨fun d hd => ?_, fun hl => ⟨vs, SqT.of (e3 _ _ (e2 _ _ g1)), by rw [g2.len]; exact hl⟩⟩⟩
    obtain ⟨w, q1, q2⟩ := g2.get hd
    refine ⟨⟨vs, w, SqT.of (e3 _ _ (e2 _ _ g1)), q1⟩, fun x H' hy => ?_⟩
    obtain ⟨rfl, hy⟩ := hy
    have q3 := hy vs (SqT.of (e3 _ _ (e2 _ _ g1)))
    rw [q1] at q3
    cases q3
    exact ⟨B2, Grow.refl e3, q2.up e2⟩
/-- range(n) -/
def rngD (n : Nat) : List PyData := (List.range n).map fun (j : Nat) => PyData.int (j : Int)
theorem rngD_len (n : Nat) : (rngD n).length = n := by simp [rngD]
theorem rngD_get {n j : Nat} {d : PyData} (h : (rngD n)[j]? = some d) : j < n ∧ d = .int (j : Int) := by
  have hj : j < n := by have := lt_of_get h; rwa [rngD_len] at this
  refine ⟨hj, ?_⟩
  unfold rngD at h
  rw [List.getElem?_map, List.getElem?_range hj] at h
  exact (Option.some.inj h).symm
theorem iw_rng (h : Ea tas Γ fun Γ1 xs => ∃ n : Nat, xs = [.int (n : Int)] ∧ n < 2 ^ 60 ∧ R' Γ1 (rngD n)) : Iw (iRng1 tas) Γ R' := fun B0 H0 B σ H S Q k =>
  h B0 H0 B σ H S _ fun Γ1 xs vs B1 H1 ⟨n, ex, hn, h1⟩ S1 e1 i1 => by
    subst ex
    cases i1 with
    | cons r1 i1 =>
      cases i1
      cases r1
      refine ⟨n, rfl, by omega, by omega, k Γ1 _ _ B1 H1 h1 S1 e1 fun B2 H2 j e2 e3 => ⟨fun d hd => ?_, fun hl => by rw [rngD_len] at hl; exact hl⟩⟩
      obtain ⟨hj, rfl⟩ := rngD_get hd
      refine ⟨hj, fun x H' hy => ?_⟩
      obtain ⟨rfl, rfl⟩ := hy
      exact ⟨B2, Grow.refl e3, by rw [Int.zero_add]; exact .int _⟩
/-- items with their places -/
def enumD (ds : List PyData) : List PyData := ds.mapIdx fun i d => PyData.tuple [.int (i : Int), d]
theorem enumD_len (ds : List PyData) : (enumD ds).length = ds.length := by simp [enumD]
theorem enumD_get {ds : List PyData} {j : Nat} {d : PyData} (h : (enumD ds)[j]? = some d) : ∃ e, ds[j]? = some e ∧ d = .tuple [.int (j : Int), e] := by
  unfold enumD at h
  rw [List.getElem?_mapIdx] at h
  cases q : ds[j]? with
  | none => rw [q] at h; cases h
  | some e => rw [q] at h; exact ⟨e, rfl, (Option.some.inj h).symm⟩
theorem gv_pair {B1 B2 H2 : Hp} {T : Addr} {x y : V} {d e : PyData} (e3 : Ex B2 H2) (hT : H2 T = none) (hx : Is B2 x d) (hy : Is B2 y e) : ∃ B', Grow B2 H2 B' (upd H2 T (.tup [x, y])) ∧ Is B' (.ref T) (.tuple [d, e]) :=
  let g := Grow.new (o := .tup [x, y]) e3 hT
  ⟨_, g, .tup upd_same (.cons (hx.up g.b) (.cons (hy.up g.b) .nil))⟩
theorem iw_enum (h : Ea tas Γ fun Γ1 xs => ∃ ds, xs = [.list ds] ∧ R' Γ1 (enumD ds)) : Iw (iEnum K tas) Γ R' := fun B0 H0 B σ H S Q k =>
  h B0 H0 B σ H S _ fun Γ1 xs vs B1 H1 ⟨ds, ex, h1⟩ S1 e1 i1 => by
    subst ex
    cases i1 with
    | cons r1 i1 =>
      cases i1
      obtain ⟨a, vs, rfl, g1, g2⟩ := is_lst r1
      refine ⟨a, vs, rfl, SqL.of (S1.bh _ _ g1), k Γ1 _ _ B1 H1 h1 S1 e1 fun B2 H2 j e2 e3 => ⟨fun d hd => ?_, fun hl => ⟨vs, SqL.of (e3 _ _ (e2 _ _ g1)), by rw [g2.len]; rw [enumD_len] at hl; exact hl⟩⟩⟩
      obtain ⟨f, hf, rfl⟩ := enumD_get hd
      obtain ⟨w, q1, q2⟩ := g2.get hf
      refine ⟨⟨vs, w, SqL.of (e3 _ _ (e2 _ _ g1)), q1⟩, fun x H' hy => ?_⟩
      obtain ⟨T, x', rfl, hT, rfl, hy⟩ := hy
      have q3 := hy vs (SqL.of (e3 _ _ (e2 _ _ g1)))
      rw [q1] at q3
      cases q3
      exact gv_pair (B1 := B1) e3 hT (.int _) (q2.up e2)
/-- pairs -/
def zipD (ds es : List PyData) : List PyData := (ds.zip es).map fun p => PyData.tuple [p.1, p.2]
theorem zipD_get {ds es : List PyData} {j : Nat} {d : PyData} (h : (zipD ds es)[j]? = some d) : ∃ e f, ds[j]? = some e ∧ es[j]? = some f ∧ d = .tuple [e, f] := by
  unfold zipD at h
  rw [List.getElem?_map] at h
  cases q : (ds.zip es)[j]? with
  | none => rw [q] at h; cases h
  | some p =>
    rw [q] at h
    rw [List.getElem?_zip_eq_some] at q
    exact ⟨p.1, p.2, q.1, q.2, (Option.some.inj h).symm⟩
theorem zipD_len (ds es : List PyData) : (zipD ds es).length = min ds.length es.length := by simp [zipD]
theorem iw_zip (h : Ea tas Γ fun Γ1 xs => ∃ ds es, (xs = [.list ds, .list es] ∨ xs = [.tuple ds, .tuple es]) ∧ R' Γ1 (zipD ds es)) : Iw (RZ.iZipA K tas) Γ R' := fun B0 H0 B σ H S Q k =>
  h B0 H0 B σ H S _ fun Γ1 xs vs B1 H1 ⟨ds, es, ex, h1⟩ S1 e1 i1 => by
    rcases ex with ex | ex
    · subst ex
      cases i1 with
      | cons r1 i1 =>
        cases i1 with
        | cons r2 i1 =>
          cases i1
          obtain ⟨a, vs, rfl, g1, g2⟩ := is_lst r1
          obtain ⟨b, ws, rfl, g3, g4⟩ := is_lst r2
          refine ⟨a, b, vs, ws, rfl, .inl ⟨SqL.of (S1.bh _ _ g1), SqL.of (S1.bh _ _ g3), k Γ1 _ _ B1 H1 h1 S1 e1 fun B2 H2 j e2 e3 => ?_⟩⟩
          have s1 : SqL K H2 a vs := SqL.of (e3 _ _ (e2 _ _ g1))
          have s2 : SqL K H2 b ws := SqL.of (e3 _ _ (e2 _ _ g3))
          refine ⟨fun d hd => ?_, fun hl => ⟨vs, ws, s1, s2, ?_⟩⟩
          · obtain ⟨f1, f2, hf1, hf2, rfl⟩ := zipD_get hd
            obtain ⟨w1, q1, q2⟩ := g2.get hf1
            obtain ⟨w2, q3, q4⟩ := g4.get hf2
            refine ⟨⟨vs, ws, w1, w2, s1, s2, q1, q3⟩, fun x H' hy => ?_⟩
            obtain ⟨T, x1, x2, rfl, hT, rfl, hy1, hy2⟩ := hy
            have p1 := hy1 vs s1
            have p2 := hy2 ws s2
            rw [q1] at p1
            rw [q3] at p2
            cases p1
            cases p2
            exact gv_pair (B1 := B1) e3 hT (q2.up e2) (q4.up e2)
          · rw [zipD_len] at hl
            rw [g2.len, g4.len]
            omega
    · subst ex
      cases i1 with
      | cons r1 i1 =>
        cases i1 with
        | cons r2 i1 =>
          cases i1
          obtain ⟨a, vs, rfl, g1, g2⟩ := is_tup r1
          obtain ⟨b, ws, rfl, g3, g4⟩ := is_tup r2
          refine ⟨a, b, vs, ws, rfl, .inr ⟨SqT.of (S1.bh _ _ g1), SqT.of (S1.bh _ _ g3), k Γ1 _ _ B1 H1 h1 S1 e1 fun B2 H2 j e2 e3 => ?_⟩⟩
          have s1 : SqT K H2 a vs := SqT.of (e3 _ _ (e2 _ _ g1))
          have s2 : SqT K H2 b ws := SqT.of (e3 _ _ (e2 _ _ g3))
          refine ⟨fun d hd => ?_, fun hl => ⟨vs, ws, s1, s2, ?_⟩⟩
          · obtain ⟨f1, f2, hf1, hf2, rfl⟩ := zipD_get hd
            obtain ⟨w1, q1, q2⟩ := g2.get hf1
            obtain ⟨w2, q3, q4⟩ := g4.get hf2
            refine ⟨⟨vs, ws, w1, w2, s1, s2, q1, q3⟩, fun x H' hy => ?_⟩
            obtain ⟨T, x1, x2, rfl, hT, rfl, hy1, hy2⟩ := hy
            have p1 := hy1 vs s1
            have p2 := hy2 ws s2
            rw [q1] at p1
            rw [q3] at p2
            cases p1
            cases p2
            exact gv_pair (B1 := B1) e3 hT (q2.up e2) (q4.up e2)
          · rw [zipD_len] at hl
            rw [g2.len, g4.len]
            omega

/-! ### loops -/
theorem sw_for {wi : TI} {tb : TS} (Iv : Nat → List Sv → Prop) (h : Iw wi Γ fun Γ1 ds => Iv 0 Γ1 ∧ (∀ j d Γ2, ds[j]? = some d → Iv j Γ2 → Sg g d Γ2 fun Γ3 => Sw tb Γ3 (Iv (j + 1)) Rt Nx (Iv (j + 1))) ∧ ∀ Γ2, Iv ds.length Γ2 → Nx Γ2) : Sw (tFor wi g tb) Γ Nx Rt Bk Ct :=
  fun B0 H0 B σ H D S n r b c => h B0 H0 B σ H S _ fun Γ1 ds J B1 H1 ⟨h0, hs, hd⟩ S1 e1 gv => by
    refine ⟨fun j m σ' H' => m = ds.length - j ∧ j ≤ ds.length ∧ ∃ Γ2 B2, Iv j Γ2 ∧ Sl B0 H0 Γ2 B2 σ' H' ∧ Ex B1 B2, ⟨_, rfl, Nat.zero_le _, Γ1, B1, h0, S1, Ex.refl _⟩, ?_⟩
    rintro j m σ' H' ⟨rfl, hj, Γ2, B2, iv, S2, e2⟩
    obtain ⟨q1, q2⟩ := gv B2 H' j e2 S2.bh
    by_cases hlt : j < ds.length
    · obtain ⟨q3, q4⟩ := q1 _ (List.getElem?_eq_getElem hlt)
      refine .inr ⟨q3, fun σ'' H'' => ∃ Γ3 B3, Iv (j + 1) Γ3 ∧ Sl B0 H0 Γ3 B3 σ'' H'' ∧ Ex B1 B3, fun σ'' H'' w => ⟨_, by omega, rfl, hlt, w⟩, fun x H'' hy => ?_⟩
      obtain ⟨B3, g3, i3⟩ := q4 x H'' hy
      refine hs j _ Γ2 (List.getElem?_eq_getElem hlt) iv B0 H0 B3 σ' H'' x (S2.grow g3) i3 _ fun Γ4 B4 σ4 H4 h4 S4 e4 => ?_
      have e14 : Ex B1 B4 := (e2.trans g3.b).trans e4
      exact h4 B0 H0 B4 σ4 H4 _ S4 (fun Γ5 B5 σ5 H5 h5 S5 e5 => ⟨Γ5, B5, h5, S5, e14.trans e5⟩) (fun Γ5 s v B5 σ5 H5 h5 S5 e5 => r Γ5 s v B5 σ5 H5 h5 S5 ((e1.trans e14).trans e5))
        (fun Γ5 B5 σ5 H5 h5 S5 e5 => n Γ5 B5 σ5 H5 h5 S5 ((e1.trans e14).trans e5)) (fun Γ5 B5 σ5 H5 h5 S5 e5 => ⟨Γ5, B5, h5, S5, e14.trans e5⟩)
    · have e : j = ds.length := by omega
      subst e
      exact .inl ⟨q2 (Nat.le_refl _), n Γ2 B2 σ' H' (hd Γ2 iv) S2 (e1.trans e2)⟩
theorem sw_while {tb : TS} (Iv : Nat → List Sv → Prop) (m0 : Nat) (h0 : Iv m0 Γ) (hs : ∀ m Γ2, Iv m Γ2 → Et tt Γ2 fun Γ3 b => (b = true → Sw tb Γ3 (fun Γ4 => ∃ m', m' < m ∧ Iv m' Γ4) Rt Nx (fun Γ4 => ∃ m', m' < m ∧ Iv m' Γ4)) ∧ (b = false → Nx Γ3)) : Sw (tWhile tt tb) Γ Nx Rt Bk Ct :=
  fun B0 H0 B σ H D S n r b c => by
    refine ⟨fun m σ' H' => ∃ Γ2 B2, Iv m Γ2 ∧ Sl B0 H0 Γ2 B2 σ' H' ∧ Ex B B2, ⟨m0, Γ, B, h0, S, Ex.refl _⟩, ?_⟩
    rintro m σ' H' ⟨Γ2, B2, iv, S2, e2⟩
    refine hs m Γ2 iv B0 H0 B2 σ' H' S2 _ fun Γ3 k B3 H3 h3 S3 e3 => ?_
    cases k with
    | true =>
      refine iteT ⟨fun σ'' H'' => ∃ m', m' < m ∧ ∃ Γ2 B2, Iv m' Γ2 ∧ Sl B0 H0 Γ2 B2 σ'' H'' ∧ Ex B B2, fun σ'' H'' ⟨m', hm, w⟩ => ⟨m', hm, w⟩, ?_⟩
      have e13 := e2.trans e3
      exact h3.1 rfl B0 H0 B3 σ' H3 _ S3 (fun Γ5 B5 σ5 H5 ⟨m', hm, h5⟩ S5 e5 => ⟨m', hm, Γ5, B5, h5, S5, e13.trans e5⟩) (fun Γ5 s v B5 σ5 H5 h5 S5 e5 => r Γ5 s v B5 σ5 H5 h5 S5 (e13.trans e5))
        (fun Γ5 B5 σ5 H5 h5 S5 e5 => n Γ5 B5 σ5 H5 h5 S5 (e13.trans e5)) (fun Γ5 B5 σ5 H5 ⟨m', hm, h5⟩ S5 e5 => ⟨m', hm, Γ5, B5, h5, S5, e13.trans e5⟩)
    | false => exact iteF (n Γ3 B3 σ' H3 (h3.2 rfl) S3 (e2.trans e3))
end
end G

/-! ## part 3 -/
set_option Elab.async false
set_option linter.all false
set_option maxRecDepth 100000
set_option maxHeartbeats 1000000
/-! F3: comprehensions, calls, promises. -/
namespace G
open PySem PySem.Spec PyProof.Rows L2

/-! ### the slots of a block's own names -/
theorem wipe_get (σ : L2.St) : ∀ (vs : List Nat) (k : Nat), (wipe σ vs)[k]? = if k ∈ vs ∧ k < σ.length then some none else σ[k]?
  | [], k => by simp [wipe]
  | v :: vs, k => by
    show ((wipe σ vs).set v none)[k]? = _
    by_cases c : v = k
    · subst c
      by_cases hl : v < σ.length
      · rw [List.getElem?_set_self (by rw [wipe_length]; exact hl), if_pos ⟨by simp, hl⟩]
      · rw [if_neg (fun z => hl z.2), List.getElem?_eq_none (by rw [List.length_set, wipe_length]; omega), List.getElem?_eq_none (by omega)]
    · rw [List.getElem?_set_ne c, wipe_get σ vs k]
      have e : (k ∈ v :: vs ∧ k < σ.length) ↔ (k ∈ vs ∧ k < σ.length) := by
        simp only [List.mem_cons]
        constructor
        · rintro ⟨h | h, h2⟩
          · exact absurd h.symm c
          · exact ⟨h, h2⟩
        · rintro ⟨h, h2⟩
          exact ⟨.inr h, h2⟩
      by_cases d : k ∈ vs ∧ k < σ.length
      · rw [if_pos d, if_pos (e.mpr d)]
      · rw [if_neg d, if_neg (fun z => d (e.mp z))]
theorem wipe_in {σ : L2.St} {vs : List Nat} {k : Nat} (h : k ∈ vs) (hl : k < σ.length) : (wipe σ vs)[k]? = some none := by rw [wipe_get, if_pos ⟨h, hl⟩]
theorem wipe_out {σ : L2.St} {vs : List Nat} {k : Nat} (h : k ∉ vs) : (wipe σ vs)[k]? = σ[k]? := by rw [wipe_get, if_neg (fun z => h z.1)]
theorem wipe_set {σ : L2.St} {vs : List Nat} {i : Nat} {x : Option V} (h : i ∈ vs) : wipe (σ.set i x) vs = wipe σ vs := by
  apply List.ext_getElem?
  intro k
  rw [wipe_get, wipe_get, List.length_set]
  by_cases d : k ∈ vs ∧ k < σ.length
  · rw [if_pos d, if_pos d]
  · rw [if_neg d, if_neg d]
    by_cases c : i = k
    · subst c
      have hl : ¬ i < σ.length := fun z => d ⟨h, z⟩
      rw [List.getElem?_eq_none (by rw [List.length_set]; omega), List.getElem?_eq_none (by omega)]
    · rw [List.getElem?_set_ne c]
/-- the target stores into these slots alone -/
def Tch (g : TG) (vs : List Nat) : Prop := ∀ v σ H (Q : L2.St → Hp → Prop), g v σ H Q → g v σ H fun σ' H' => wipe σ' vs = wipe σ vs ∧ Q σ' H'
def Tchs (g : TGs) (vs : List Nat) : Prop := ∀ v σ H (Q : L2.St → Hp → Prop), g v σ H Q → g v σ H fun σ' H' => wipe σ' vs = wipe σ vs ∧ Q σ' H'
theorem tch_name {i : Nat} {vs : List Nat} (h : i ∈ vs) : Tch (gName i) vs := fun v σ H Q q => ⟨wipe_set h, q⟩
theorem tchs_nil {vs : List Nat} : Tchs gNil vs := fun v σ H Q ⟨e, q⟩ => ⟨e, rfl, q⟩
/-- the targets' readings are monotone -/
def MonG (g : TG) : Prop := ∀ v σ H (Q Q' : L2.St → Hp → Prop), (∀ σ' H', Q σ' H' → Q' σ' H') → g v σ H Q → g v σ H Q'
def MonGs (g : TGs) : Prop := ∀ v σ H (Q Q' : L2.St → Hp → Prop), (∀ σ' H', Q σ' H' → Q' σ' H') → g v σ H Q → g v σ H Q'
theorem mon_name {i : Nat} : MonG (gName i) := fun v σ H Q Q' f q => f _ _ q
theorem mons_nil : MonGs gNil := fun v σ H Q Q' f ⟨e, q⟩ => ⟨e, f _ _ q⟩
theorem mons_cons {g : TG} {gs : TGs} (h : MonG g) (h2 : MonGs gs) : MonGs (gCons g gs) := fun v σ H Q Q' f ⟨x, r, e, q⟩ => ⟨x, r, e, h _ _ _ _ _ (fun σ' H' q' => h2 _ _ _ _ _ f q') q⟩
theorem mon_tup {K : PySem.W.Frag} {n : Nat} {gs : TGs} (h : MonGs gs) : MonG (gTup K n gs) := fun v σ H Q Q' f ⟨a, xs, e, s, l, q⟩ => ⟨a, xs, e, s, l, h _ _ _ _ _ f q⟩
theorem tchs_cons {g : TG} {gs : TGs} {vs : List Nat} (m : MonG g) (ms : MonGs gs) (h : Tch g vs) (h2 : Tchs gs vs) : Tchs (gCons g gs) vs := fun v σ H Q ⟨x, r, e, q⟩ =>
  ⟨x, r, e, m _ _ _ _ _ (fun σ' H' ⟨w, q'⟩ => ms _ _ _ _ _ (fun σ'' H'' ⟨w2, q''⟩ => ⟨w2.trans w, q''⟩) (h2 _ _ _ _ q')) (h _ _ _ _ q)⟩
theorem tch_tup {K : PySem.W.Frag} {n : Nat} {gs : TGs} {vs : List Nat} (h : Tchs gs vs) : Tch (gTup K n gs) vs := fun v σ H Q ⟨a, xs, e, s, l, q⟩ => ⟨a, xs, e, s, l, h _ _ _ _ q⟩

def wipeG (Γ : List Sv) : List Nat → List Sv
  | [] => Γ
  | v :: vs => (wipeG Γ vs).set v .no
theorem wipeG_length (Γ : List Sv) : ∀ vs : List Nat, (wipeG Γ vs).length = Γ.length
  | [] => rfl
  | v :: vs => by unfold wipeG; rw [List.length_set, wipeG_length Γ vs]
def datS : Sv → Sv
  | .d d => .d d
  | _ => .no
/-- the slots of a block's own names as they were ahead of it -/
def rst (Γ1 Γ2 : List Sv) : List Nat → List Sv
  | [] => Γ2
  | v :: vs => (rst Γ1 Γ2 vs).set v (datS (Γ1[v]?.getD .no))
theorem rst_get (Γ1 Γ2 : List Sv) : ∀ (vs : List Nat) (k : Nat), (rst Γ1 Γ2 vs)[k]? = if k ∈ vs ∧ k < Γ2.length then some (datS (Γ1[k]?.getD .no)) else Γ2[k]?
  | [], k => by simp [rst]
  | v :: vs, k => by
    have hlen : ∀ vs : List Nat, (rst Γ1 Γ2 vs).length = Γ2.length := by
      intro vs
      induction vs with
      | nil => rfl
      | cons w ws ih => unfold rst; rw [List.length_set, ih]
    show ((rst Γ1 Γ2 vs).set v _)[k]? = _
    by_cases c : v = k
    · subst c
      by_cases hl : v < Γ2.length
      · rw [List.getElem?_set_self (by rw [hlen]; exact hl), if_pos ⟨by simp, hl⟩]
      · rw [if_neg (fun z => hl z.2), List.getElem?_eq_none (by rw [List.length_set, hlen]; omega), List.getElem?_eq_none (by omega)]
    · rw [List.getElem?_set_ne c, rst_get Γ1 Γ2 vs k]
      have e : (k ∈ v :: vs ∧ k < Γ2.length) ↔ (k ∈ vs ∧ k < Γ2.length) := by
        simp only [List.mem_cons]
        constructor
        · rintro ⟨h | h, h2⟩
          · exact absurd h.symm c
          · exact ⟨h, h2⟩
        · rintro ⟨h, h2⟩
          exact ⟨.inr h, h2⟩
      by_cases d : k ∈ vs ∧ k < Γ2.length
      · rw [if_pos d, if_pos (e.mpr d)]
      · rw [if_neg d, if_neg (fun z => d (e.mp z))]
theorem rst_length (Γ1 Γ2 : List Sv) : ∀ vs : List Nat, (rst Γ1 Γ2 vs).length = Γ2.length
  | [] => rfl
  | v :: vs => by unfold rst; rw [List.length_set, rst_length Γ1 Γ2 vs]

section
variable {B0 H0 B B' H H' : Hp} {Γ Γ' : List Sv} {σ σ' : L2.St}
theorem Sl.wipe1 (S : Sl B0 H0 Γ B σ H) (v : Nat) : Sl B0 H0 (Γ.set v .no) B (σ.set v none) H := by
  refine ⟨S.b0, S.h0, S.nb, S.bh, by rw [List.length_set, List.length_set, S.len], fun j s ej => ?_, fun j k q r b hjk ej ek hj => ?_⟩
  · by_cases c : v = j
    · subst c
      have hi := lt_of_get ej
      rw [List.length_set] at hi
      rw [List.getElem?_set_self hi] at ej
      cases ej
      trivial
    · rw [List.getElem?_set_ne c] at ej ⊢
      exact S.sl j s ej
  · by_cases c : v = j
    · subst c
      have hi := lt_of_get ej
      rw [List.length_set] at hi
      rw [List.getElem?_set_self hi] at ej; cases ej
    · by_cases c2 : v = k
      · subst c2
        have hi := lt_of_get ek
        rw [List.length_set] at hi
        rw [List.getElem?_set_self hi] at ek; cases ek
      · rw [List.getElem?_set_ne c] at ej hj
        rw [List.getElem?_set_ne c2] at ek ⊢
        exact S.ap j k q r b hjk ej ek hj
theorem Sl.wipe (S : Sl B0 H0 Γ B σ H) : ∀ vs : List Nat, Sl B0 H0 (wipeG Γ vs) B (wipe σ vs) H
  | [] => S
  | v :: vs => (S.wipe vs).wipe1 v
/-- behind a block: the slots as they were -/
theorem Sl.back {Γ1 : List Sv} {B1 H1 : Hp} {vs : List Nat} (S1 : Sl B0 H0 Γ1 B1 σ H1) (e : Ex B1 B) (S : Sl B0 H0 Γ B (L2.wipe σ vs) H) : Sl B0 H0 (rst Γ1 Γ vs) B σ H := by
  have hl : σ.length = Γ.length := by rw [← wipe_length σ vs]; exact S.len
  refine ⟨S.b0, S.h0, S.nb, S.bh, by rw [rst_length]; exact hl, fun j s ej => ?_, fun j k q r b hjk ej ek hj => ?_⟩
  · rw [rst_get] at ej
    by_cases d : j ∈ vs ∧ j < Γ.length
    · rw [if_pos d] at ej
      cases hg : Γ1[j]? with
      | none =>
        rw [hg] at ej
        cases ej
        trivial
      | some s1 =>
        rw [hg] at ej
        cases s1 with
        | no => cases ej; trivial
        | o p => cases ej; trivial
        | d x =>
          cases ej
          obtain ⟨v, g1, g2⟩ := S1.dat hg
          exact ⟨v, g1, g2.up e⟩
    · rw [if_neg d] at ej
      have hj : j < Γ.length := lt_of_get ej
      have hn : j ∉ vs := fun z => d ⟨z, hj⟩
      have h := S.sl j s ej
      rw [wipe_out hn] at h
      exact h
  · have key : ∀ {m : Nat} {r : Ow}, (rst Γ1 Γ vs)[m]? = some (.o r) → m ∉ vs ∧ Γ[m]? = some (.o r) := fun {m r} em => by
      rw [rst_get] at em
      by_cases d : m ∈ vs ∧ m < Γ.length
      · rw [if_pos d] at em
        have em' := Option.some.inj em
        cases hg : Γ1[m]?.getD .no with
        | no => rw [hg] at em'; cases em'
        | d x => rw [hg] at em'; cases em'
        | o p => rw [hg] at em'; cases em'
      · rw [if_neg d] at em
        exact ⟨fun z => d ⟨z, lt_of_get em⟩, em⟩
    obtain ⟨n1, e1⟩ := key ej
    obtain ⟨n2, e2⟩ := key ek
    have := S.ap j k q r b hjk e1 e2 (by rw [wipe_out n1]; exact hj)
    rw [wipe_out n2] at this
    exact this
open Classical in
/-- the heap without what the slots own -/
noncomputable def mns (Γ : List Sv) (σ : L2.St) (H : Hp) : Hp := fun a => if NoOwn Γ σ a then H a else none
theorem mns_some {a : Addr} {o : HO} (h : mns Γ σ H a = some o) : NoOwn Γ σ a ∧ H a = some o := by
  unfold mns at h
  by_cases c : NoOwn Γ σ a
  · rw [if_pos c] at h; exact ⟨c, h⟩
  · rw [if_neg c] at h; cases h
theorem mns_of {a : Addr} (c : NoOwn Γ σ a) : mns Γ σ H a = H a := by unfold mns; rw [if_pos c]
theorem mns_own {i : Nat} {p : Ow} {a : Addr} (e : Γ[i]? = some (.o p)) (h : σ[i]? = some (some (.ref a))) : mns Γ σ H a = none := by
  unfold mns
  rw [if_neg (fun c => c i p e h)]
/-- the same, the heap of now as the entry -/
theorem Sl.rebase (S : Sl B0 H0 Γ B σ H) : Sl B (mns Γ σ H) Γ B σ H := by
  refine ⟨Ex.refl _, fun a o h => (mns_some h).2, fun a o h n => n, S.bh, S.len, fun j s ej => ?_, S.ap⟩
  have h := S.sl j s ej
  cases s with
  | no => trivial
  | d d => exact h
  | o p =>
    obtain ⟨a, o, g1, g2, g3, g4, g5⟩ := h
    exact ⟨a, o, g1, g2, mns_own ej g1, g4, g5⟩
theorem Sl.unbase (S : Sl B0 H0 Γ B σ H) (T : Sl B (mns Γ σ H) Γ' B' σ' H') : Sl B0 H0 Γ' B' σ' H' := by
  have no : ∀ a o, H0 a = some o → NoOwn Γ σ a := fun a o h i p e z => by
    obtain ⟨b, u, g1, g2, g3, g4, g5⟩ := S.own e
    rw [z] at g1
    cases g1
    rw [g3] at h
    cases h
  refine ⟨S.b0.trans T.b0, fun a o h => T.h0 a o (by rw [mns_of (no a o h)]; exact S.h0 a o h), fun a o h n => T.nb a o (by rw [mns_of (no a o h)]; exact S.h0 a o h) (S.nb a o h n), T.bh, T.len, fun j s ej => ?_, T.ap⟩
  have h := T.sl j s ej
  cases s with
  | no => trivial
  | d d => exact h
  | o p =>
    obtain ⟨a, o, g1, g2, g3, g4, g5⟩ := h
    refine ⟨a, o, g1, g2, ?_, g4, g5⟩
    cases q : H0 a with
    | none => rfl
    | some u =>
      have := S.h0 a u q
      rw [mns_of (no a u q), this] at g3
      cases g3
/-- an object beside all this is changed -/
theorem Sl.side {D : Addr} {o : HO} (S : Sl B0 H0 Γ B σ H) (h1 : B D = none) (h2 : H0 D = none) (h3 : NoOwn Γ σ D) : Sl B0 H0 Γ B σ (upd H D o) := by
  refine ⟨S.b0, S.h0.mut h2, S.nb, S.bh.mut h1, S.len, fun j s ej => ?_, S.ap⟩
  have h := S.sl j s ej
  cases s with
  | no => trivial
  | d d => exact h
  | o p =>
    obtain ⟨a, u, g1, g2, g3, g4, g5⟩ := h
    have hb : a ≠ D := fun z => by subst z; exact h3 j p ej g1
    exact ⟨a, u, g1, g2, g3, by rw [upd_ne hb]; exact g4, g5⟩
theorem NoOwn.wipe {vs : List Nat} {a : Addr} (h : NoOwn Γ σ a) (S : Sl B0 H0 Γ B σ H) : NoOwn (wipeG Γ vs) (L2.wipe σ vs) a := by
  intro i p e z
  have T := S.wipe vs
  by_cases c : i ∈ vs
  · have hl := lt_of_get z
    rw [wipe_length] at hl
    rw [wipe_in c hl] at z
    cases z
  · rw [wipe_out c] at z
    have e' : Γ[i]? = some (.o p) := by
      have : ∀ vs : List Nat, i ∉ vs → (wipeG Γ vs)[i]? = Γ[i]? := by
        intro vs
        induction vs with
        | nil => intro _; rfl
        | cons w ws ih =>
          intro hn
          simp only [List.mem_cons, not_or] at hn
          show ((wipeG Γ ws).set w .no)[i]? = _
          rw [List.getElem?_set_ne (fun z => hn.1 z.symm)]
          exact ih hn.2
      rw [← this vs c]; exact e
    exact h i p e' z
end

section
variable {Γ : List Sv} {te ta tb tc : TE} {tt tu : TT} {tas : TA} {K : PySem.W.Frag} {R : List Sv → PyData → Prop} {t u : TS} {g : TG} {gs : TGs}
/-- [elt for target in iter if test] -/
theorem ew_lc {R : List Sv → Sv → Prop} {wi : TI} {vs : List Nat} (Iv : Nat → List Sv → List PyData → Prop) (mon : MonG g) (tch : Tch g vs)
    (h : Iw wi Γ fun Γ1 ds => ds.length ≤ sizeLine ∧ Iv 0 (wipeG Γ1 vs) [] ∧
      (∀ j d Γ2 acc, ds[j]? = some d → Iv j Γ2 acc → Sg g d Γ2 fun Γ3 => Et tt Γ3 fun Γ4 b => (b = true → Ed te Γ4 fun Γ5 y => Iv (j + 1) (wipeG Γ5 vs) (acc ++ [y])) ∧ (b = false → Iv (j + 1) (wipeG Γ4 vs) acc)) ∧
      ∀ Γ2 acc, Iv ds.length Γ2 acc → R (rst Γ1 Γ2 vs) (.o (Ol acc))) : Ew (tLc wi g tt te vs) Γ R := fun B0 H0 B σ H S Q k =>
  h B0 H0 B σ H S _ fun Γ1 ds J B1 H1 ⟨hz, h0, hs, hd⟩ S1 e1 gv D hD => by
    have nD0 : H0 D = none := S1.h0.free hD
    have nB1 : B1 D = none := S1.bh.free hD
    have Sw0 := (S1.grow (Grow.new' (o := .lst []) S1.bh hD)).wipe vs
    have no1 : NoOwn (wipeG Γ1 vs) (wipe σ vs) D := (nown_new S1 hD).wipe S1
    refine ⟨fun j m H' => m = ds.length - j ∧ j ≤ ds.length ∧ ∃ Γ2 B2 acc ws, Iv j Γ2 acc ∧ acc.length ≤ j ∧ Sl B0 H0 Γ2 B2 (wipe σ vs) H' ∧ Ex B1 B2 ∧ B2 D = none ∧ H' D = some (.lst ws) ∧ IsAll B2 ws acc ∧ NoOwn Γ2 (wipe σ vs) D,
      ⟨_, rfl, Nat.zero_le _, _, B1, [], [], h0, Nat.le_refl _, Sw0, Ex.refl _, nB1, upd_same, .nil, no1⟩, ?_⟩
    rintro j m H' ⟨rfl, hj, Γ2, B2, acc, ws, iv, hacc, S2, e2, nB2, eD, ia, no2⟩
    obtain ⟨q1, q2⟩ := gv B2 H' j e2 S2.bh
    by_cases hlt : j < ds.length
    · obtain ⟨q3, q4⟩ := q1 _ (List.getElem?_eq_getElem hlt)
      refine .inr ⟨q3, fun H'' => ∃ Γ2 B2 acc ws, Iv (j + 1) Γ2 acc ∧ acc.length ≤ j + 1 ∧ Sl B0 H0 Γ2 B2 (wipe σ vs) H'' ∧ Ex B1 B2 ∧ B2 D = none ∧ H'' D = some (.lst ws) ∧ IsAll B2 ws acc ∧ NoOwn Γ2 (wipe σ vs) D,
        fun H'' w => ⟨_, by omega, rfl, hlt, w⟩, fun x H3 hy => ?_⟩
      obtain ⟨B3, g3, i3⟩ := q4 x H3 hy
      have S3 := S2.grow g3
      have eD3 := g3.h _ _ eD
      have nB3 : B3 D = none := g3.nb D _ eD nB2
      have R3 := S3.rebase
      have mD : mns Γ2 (wipe σ vs) H3 D = some (.lst ws) := by rw [mns_of no2]; exact eD3
      have ww : wipe (wipe σ vs) vs = wipe σ vs := List.ext_getElem? fun k => by
        rw [wipe_get, wipe_length]
        by_cases d : k ∈ vs ∧ k < σ.length
        · rw [if_pos d, wipe_in d.1 d.2]
        · rw [if_neg d]
      refine mon _ _ _ _ _ ?_ (tch _ _ _ _ (hs j _ Γ2 acc (List.getElem?_eq_getElem hlt) iv _ _ B3 (wipe σ vs) H3 x R3 i3 (fun σ4 H4 => ∃ Γ4 B4, (Et tt Γ4 fun Γ5 b => (b = true → Ed te Γ5 fun Γ5 y => Iv (j + 1) (wipeG Γ5 vs) (acc ++ [y])) ∧ (b = false → Iv (j + 1) (wipeG Γ5 vs) acc)) ∧ Sl B3 (mns Γ2 (wipe σ vs) H3) Γ4 B4 σ4 H4)
        fun Γ4 B4 σ4 H4 h4 S4 e4 => ⟨Γ4, B4, h4, S4⟩))
      rintro σ4 H4 ⟨hw, Γ4, B4, h4, S4⟩
      rw [ww] at hw
      refine ⟨hw, ?_⟩
      -- what holds at any later state of the turn
      have far : ∀ {Γ5 : List Sv} {B5 H5 : Hp}, Sl B3 (mns Γ2 (wipe σ vs) H3) Γ5 B5 σ4 H5 → Sl B0 H0 Γ5 B5 σ4 H5 ∧ B5 D = none ∧ H5 D = some (.lst ws) ∧ NoOwn Γ5 σ4 D ∧ Ex B3 B5 := fun {Γ5 B5 H5} S5 => by
        refine ⟨S3.unbase S5, S5.nb _ _ mD nB3, S5.h0 _ _ mD, fun i p e z => ?_, S5.b0⟩
        obtain ⟨b, o, k1, k2, k3, k4, k5⟩ := S5.own e
        rw [z] at k1
        cases k1
        rw [mD] at k3
        cases k3
      refine h4 _ _ B4 σ4 H4 S4 _ fun Γ5 b B5 H5 h5 S5 e5 => ?_
      cases b with
      | true =>
        refine iteT (h5.1 rfl _ _ B5 σ4 H5 S5 _ fun Γ6 y w B6 H6 h6 S6 e6 i6 => ?_)
        obtain ⟨T, nB6, eD6, no6, e36⟩ := far S6
        have S7 := ((T.side (o := .lst (ws ++ [w])) nB6 nD0 no6).wipe vs)
        refine ⟨ws, eD6, by rw [ia.len]; omega, wipeG Γ6 vs, B6, acc ++ [y], ws ++ [w], h6, by rw [List.length_append, List.length_singleton]; omega, by rw [hw] at S7; exact S7, (e2.trans g3.b).trans e36, nB6, upd_same,
          (ia.up (g3.b.trans e36)).app (.cons i6 .nil), ?_⟩
        have := no6.wipe (vs := vs) T
        rw [hw] at this
        exact this
      | false =>
        obtain ⟨T, nB5, eD5, no5, e35⟩ := far S5
        have S7 := T.wipe vs
        refine iteF ⟨wipeG Γ5 vs, B5, acc, ws, h5.2 rfl, by omega, by rw [hw] at S7; exact S7, (e2.trans g3.b).trans e35, nB5, eD5, ia.up (g3.b.trans e35), ?_⟩
        have := no5.wipe (vs := vs) T
        rw [hw] at this
        exact this
    · have e : j = ds.length := by omega
      subst e
      have no : NoOwn (rst Γ1 Γ2 vs) σ D := by
        intro i p ei z
        have T := S1.back (vs := vs) e2 S2
        obtain ⟨b, o, k1, k2, k3, k4, k5⟩ := T.own ei
        rw [rst_get] at ei
        by_cases d : i ∈ vs ∧ i < Γ2.length
        · rw [if_pos d] at ei
          have em' := Option.some.inj ei
          cases hg : Γ1[i]?.getD .no with
          | no => rw [hg] at em'; cases em'
          | d x => rw [hg] at em'; cases em'
          | o p => rw [hg] at em'; cases em'
        · rw [if_neg d] at ei
          have hn : i ∉ vs := fun q => d ⟨q, lt_of_get ei⟩
          exact no2 i p ei (by rw [wipe_out hn]; exact z)
      exact .inl ⟨q2 (Nat.le_refl _), k _ _ _ B2 H' (hd Γ2 acc iv) (S1.back e2 S2) (e1.trans e2) ⟨D, _, rfl, nB2, nD0, eD, ⟨True.intro, ws, rfl, ia⟩, no⟩⟩
end
end G

/-! ## part 4 -/
set_option Elab.async false
set_option linter.all false
set_option maxRecDepth 100000
set_option maxHeartbeats 1000000
/-! F4: promises, calls, the built-ins. -/
namespace G
open PySem PySem.Spec PyProof.Rows L2

/-- what comes back from a call -/
def RvC (B' H' H : Hp) (v : V) : Sv → Prop
  | .no => True
  | .d d => Is B' v d
  | .o p => ∃ a u, v = .ref a ∧ B' a = none ∧ H a = none ∧ H' a = some u ∧ p.φ a B' u
/-- a def over data: n arguments; spec ds R: called with ds it may hand back what R lets -/
def SpD (n : Nat) (spec : List PyData → (Sv → Prop) → Prop) : Sp := fun vs H Q _ => ∃ B ds R, Ex B H ∧ IsAll B vs ds ∧ ds.length = n ∧ spec ds R ∧ ∀ s v B' H', R s → Grow B H B' H' → RvC B' H' H v s → Q v H'
/-- a pen -/
structure PenOk (a l n : Int) : Prop where
  a0 : 0 ≤ a
  an : a ≤ n
  l0 : 0 ≤ l
def penD (c : List Int) (a l : Int) : List PyData := [.list (c.map PyData.int), .int a, .int l]
def Op (p : Addr) (n : Nat) : Ow := ⟨fun a B o => ∃ c x l, PenOk x l n ∧ c.length ≤ 63 ∧ (Oa (· = p) (penD c x l)).φ a B o, fun a B B' o e ⟨c, x, l, h1, h2, h3⟩ => ⟨c, x, l, h1, h2, (Oa (· = p) (penD c x l)).mono a B B' o e h3⟩⟩
/-- a def that draws by a pen, its first argument; k more -/
def SpP (k : Nat) (spec : Nat → List PyData → (Nat → Sv → Prop) → Prop) : Sp := fun vs H Q _ => ∃ B p vs' ds n o R, vs = .ref p :: vs' ∧ Ex B H ∧ B p = none ∧ H p = some o ∧ (Op p n).φ p B o ∧ IsAll B vs' ds ∧ ds.length = k ∧ spec n ds R ∧
  ∀ m s v B' H', R m s → Ex B B' → Ex B' H' → (∀ a u, a ≠ p → H a = some u → H' a = some u) → (∀ a u, H a = some u → B a = none → B' a = none) → (∃ o', H' p = some o' ∧ (Op p m).φ p B' o') → RvC B' H' H v s → Q v H'

section
variable {Γ : List Sv} {te ta tb tc : TE} {tt tu : TT} {tas : TA} {K : PySem.W.Frag} {R : List Sv → PyData → Prop} {t u : TS}
theorem RvC.rv {B0 H0 B H B' H' : Hp} {σ : L2.St} {v : V} {s : Sv} (S : Sl B0 H0 Γ B σ H) {Γ' : List Sv} (own : ∀ (i : Nat) p, Γ'[i]? = some (.o p) → ∃ q, Γ[i]? = some (.o q)) (h : RvC B' H' H v s) : Rv B' H' H0 Γ' σ v s := by
  cases s with
  | no => trivial
  | d d => exact h
  | o p =>
    obtain ⟨a, u, rfl, h1, h2, h3, h4⟩ := h
    refine ⟨a, u, rfl, h1, S.h0.free h2, h3, h4, fun i q e z => ?_⟩
    obtain ⟨q', e'⟩ := own i q e
    obtain ⟨b, o, k1, k2, k3, k4, k5⟩ := S.own e'
    rw [z] at k1
    cases k1
    rw [h2] at k4
    cases k4
theorem ew_call {R : List Sv → Sv → Prop} {n : Nat} {spec : List PyData → (Sv → Prop) → Prop} {E : XK} (h : Ea tas Γ fun Γ1 ds => ds.length = n ∧ spec ds (R Γ1)) : Ew (tCall (SpD n spec) [] E tas) Γ R := fun B0 H0 B σ H S Q k =>
  h B0 H0 B σ H S _ fun Γ1 ds vs B1 H1 ⟨hl, h1⟩ S1 e1 i1 => by
    rw [List.append_nil]
    exact ⟨B1, ds, R Γ1, S1.bh, i1, hl, h1, fun s v B' H' hr g rv => k Γ1 s v B' H' hr (S1.grow g) (e1.trans g.b) (rv.rv S1 fun i p e => ⟨p, e⟩)⟩
theorem ew_callP {R : List Sv → Sv → Prop} {i : Nat} {p : Addr} {n0 k : Nat} {spec : Nat → List PyData → (Nat → Sv → Prop) → Prop} {E : XK} (h0 : Γ[i]? = some (.o (Op p n0)))
    (h : Ea tas Γ fun Γ1 ds => ∃ n, Γ1[i]? = some (.o (Op p n)) ∧ ds.length = k ∧ spec n ds fun m s => R (Γ1.set i (.o (Op p m))) s) : Ew (tCall (SpP k spec) [] E (tCons (tVar i) tas)) Γ R := fun B0 H0 B σ H S Q q => by
  obtain ⟨a, o, g1, _⟩ := S.own h0
  refine ⟨_, g1, h B0 H0 B σ H S _ fun Γ1 ds vs B1 H1 ⟨n, e, hl, h1⟩ S1 e1 i1 => ?_⟩
  show SpP k spec ((V.ref a :: vs) ++ []) H1 Q E
  rw [List.append_nil]
  obtain ⟨a', o', k1, k2, k3, k4, k5⟩ := S1.own e
  rw [g1] at k1
  cases k1
  have ea : a = p := by obtain ⟨c, x, l, _, _, z, _⟩ := k5; exact z
  subst ea
  refine ⟨B1, a, vs, ds, n, o', _, rfl, S1.bh, k2, k4, k5, i1, hl, h1, fun m s v B' H' hr eB bh hk hn ⟨o2, ho, hp⟩ rv => ?_⟩
  have other : ∀ (j : Nat) r, Γ1[j]? = some (.o r) → i ≠ j → ∃ b u, σ[j]? = some (some (.ref b)) ∧ b ≠ a ∧ B1 b = none ∧ H0 b = none ∧ H1 b = some u ∧ r.φ b B1 u := fun j r ej c => by
    obtain ⟨b, u, q1, q2, q3, q4, q5⟩ := S1.own ej
    exact ⟨b, u, q1, fun z => S1.ap i j _ r a c e ej g1 (by rw [← z]; exact q1), q2, q3, q4, q5⟩
  have S2 : Sl B0 H0 (Γ1.set i (.o (Op a m))) B' σ H' := by
    refine ⟨S1.b0.trans eB, fun b u z => hk b u (fun w => by subst w; rw [k3] at z; cases z) (S1.h0 b u z), fun b u z w => hn b u (S1.h0 b u z) (S1.nb b u z w), bh, by rw [List.length_set]; exact S1.len, fun j s' ej => ?_, fun j k' q' r b hjk ej ek hj => ?_⟩
    · by_cases c : i = j
      · subst c
        rw [List.getElem?_set_self (lt_of_get e)] at ej
        cases ej
        exact ⟨a, o2, g1, hn a o' k4 k2, k3, ho, hp⟩
      · rw [List.getElem?_set_ne c] at ej
        have w := S1.sl j s' ej
        cases s' with
        | no => trivial
        | d d => obtain ⟨v, w1, w2⟩ := w; exact ⟨v, w1, w2.up eB⟩
        | o r =>
          obtain ⟨b, u, q1, q0, q2, q3, q4, q5⟩ := other j r ej c
          exact ⟨b, u, q1, hn b u q4 q2, q3, hk b u q0 q4, r.mono _ _ _ _ eB q5⟩
    · have own : ∀ {m' : Nat} {r : Ow}, (Γ1.set i (.o (Op a m)))[m']? = some (.o r) → ∃ r', Γ1[m']? = some (.o r') := fun {m' r} em => by
        by_cases c : i = m'
        · subst c; exact ⟨_, e⟩
        · rw [List.getElem?_set_ne c] at em; exact ⟨r, em⟩
      obtain ⟨q2, e2⟩ := own ej
      obtain ⟨r2, e3⟩ := own ek
      exact S1.ap j k' q2 r2 b hjk e2 e3 hj
  refine q _ s v B' H' hr S2 (e1.trans eB) (rv.rv S1 fun j r ej => ?_)
  by_cases c : i = j
  · subst c; exact ⟨_, e⟩
  · rw [List.getElem?_set_ne c] at ej; exact ⟨r, ej⟩

/-- the slots at a def's entry -/
def g0 (n m : Nat) (ss : List Sv) : List Sv := ss ++ List.replicate (n - m) .no
theorem start_len {N : List Str} {vs : List V} (h : vs.length ≤ N.length) : (L2.start N vs).length = N.length := by
  unfold L2.start
  rw [List.length_append, List.length_map, List.length_replicate]
  omega
theorem start_get {N : List Str} {vs : List V} {i : Nat} {v : V} (h : vs[i]? = some v) : (L2.start N vs)[i]? = some (some v) := by
  unfold L2.start
  have hi : i < (vs.map some).length := by rw [List.length_map]; exact lt_of_get h
  rw [List.getElem?_append_left hi, List.getElem?_map, h]
  rfl
/-- a def's entry: data in the parameters -/
theorem Sl.enter {B H : Hp} {N : List Str} {vs : List V} {ds : List PyData} (e : Ex B H) (h : IsAll B vs ds) (hn : ds.length ≤ N.length) : Sl B H (ds.map Sv.d ++ List.replicate (N.length - ds.length) .no) B (L2.start N vs) H := by
  have hl := h.len
  have own : ∀ {i : Nat} {p : Ow}, (ds.map Sv.d ++ List.replicate (N.length - ds.length) .no)[i]? ≠ some (.o p) := fun {i p} z => by
    have := List.mem_of_getElem? z
    rcases List.mem_append.mp this with m | m
    · obtain ⟨d, _, q⟩ := List.mem_map.mp m; cases q
    · have := List.eq_of_mem_replicate m; cases this
  refine ⟨Ex.refl _, Ex.refl _, fun a o _ n => n, e, ?_, fun i s ei => ?_, fun i j p q a _ ei _ => absurd ei own⟩
  · rw [start_len (by omega), List.length_append, List.length_map, List.length_replicate]
    omega
  · by_cases c : i < ds.length
    · rw [List.getElem?_append_left (by rw [List.length_map]; exact c), List.getElem?_map, List.getElem?_eq_getElem c] at ei
      cases ei
      obtain ⟨v, q1, q2⟩ := h.get (List.getElem?_eq_getElem c)
      exact ⟨v, start_get q1, q2⟩
    · have hm : s ∈ List.replicate (N.length - ds.length) Sv.no := by
        rw [List.getElem?_append_right (by rw [List.length_map]; omega)] at ei
        exact List.mem_of_getElem? ei
      rw [List.eq_of_mem_replicate hm]
      trivial
section
variable {P : Program} {w : World} {mg : Str → Option Value} {base : Heap}
/-- A DEF OVER DATA, by its body's reading -/
theorem fnD {x qual : Str} {st : Stmt} {f : Addr} {fd : FuncData} {N ps : List Str} {k n : Nat} {spec : List PyData → (Sv → Prop) → Prop} (t : TS) (F : Fun K x qual st f fd) (S : FnScope N ps (defScope st)) (hn : ps.length = n) (hN : n ≤ N.length)
    (hbody : ∀ (cdv : Value) (A : Around) (outer : List Env) (s : Shared) (H : Hp), Room k (A.deeper (envOfC qual (defScope st) s.heap.objs.size f cdv)) → PSs (cxOf CX0 P w K mg base N qual (defScope st) f cdv A outer s H E0).nox (defBody st) t)
    (h : ∀ ds R, ds.length = n → spec ds R → Sw t (ds.map Sv.d ++ List.replicate (N.length - n) .no) (fun _ => R (.d .none)) (fun _ s => R s) (fun _ => False) (fun _ => False)) : FnOk P w K mg base CX0 (k + 1) f fd ps (SpD n spec) := by
  refine F.ok S (fun vs H Q E ⟨B, ds, R, _, i, hl, _⟩ => by rw [i.len, hl, hn]) (fun cdv A outer s H vs Q E hr ⟨B, ds, R, e, i, hl, hs, q⟩ => ⟨t, ?_, ?_⟩)
  · have := hbody cdv A outer s H hr
    exact this
  · have hz : ds.length ≤ N.length := by omega
    have S0 := Sl.enter (N := N) e i hz
    rw [hl] at S0
    have fin : ∀ {Γ' : List Sv} {B' H' : Hp} {σ' : L2.St}, Sl B H Γ' B' σ' H' → Grow B H B' H' := fun T => ⟨T.b0, T.h0, T.bh, T.nb⟩
    refine h ds R hl hs B H B _ H _ S0 (fun Γ' B' σ' H' hr' T eb => q _ _ B' H' hr' (fin T) .non) (fun Γ' s' v B' σ' H' hr' T eb rv => q s' v B' H' hr' (fin T) ?_) (fun _ _ _ _ z => z.elim) (fun _ _ _ _ z => z.elim)
    cases s' with
    | no => trivial
    | d d => exact rv
    | o p => obtain ⟨a, o, rfl, h1, h2, h3, h4, _⟩ := rv; exact ⟨a, o, rfl, h1, h2, h3, h4⟩
open Classical in
noncomputable def but (p : Addr) (H : Hp) : Hp := fun a => if a = p then none else H a
theorem but_some {p a : Addr} {H : Hp} {o : HO} (h : but p H a = some o) : a ≠ p ∧ H a = some o := by
  unfold but at h
  by_cases c : a = p
  · rw [if_pos c] at h; cases h
  · rw [if_neg c] at h; exact ⟨c, h⟩
theorem but_of {p a : Addr} {H : Hp} (c : a ≠ p) : but p H a = H a := by unfold but; rw [if_neg c]
theorem but_same {p : Addr} {H : Hp} : but p H p = none := by unfold but; rw [if_pos rfl]
theorem Sl.enterP {B H : Hp} {N : List Str} {p : Addr} {n : Nat} {o : HO} {vs : List V} {ds : List PyData} (e : Ex B H) (h1 : B p = none) (h2 : H p = some o) (h3 : (Op p n).φ p B o) (h : IsAll B vs ds) (hn : ds.length + 1 ≤ N.length) :
    Sl B (but p H) (.o (Op p n) :: (ds.map Sv.d ++ List.replicate (N.length - (ds.length + 1)) .no)) B (L2.start N (.ref p :: vs)) H := by
  have hl := h.len
  have own : ∀ {i : Nat} {q : Ow}, (ds.map Sv.d ++ List.replicate (N.length - (ds.length + 1)) .no)[i]? ≠ some (.o q) := fun {i q} z => by
    have := List.mem_of_getElem? z
    rcases List.mem_append.mp this with m | m
    · obtain ⟨d, _, q⟩ := List.mem_map.mp m; cases q
    · have := List.eq_of_mem_replicate m; cases this
  refine ⟨Ex.refl _, fun a u z => (but_some z).2, fun a u _ n => n, e, ?_, fun i s ei => ?_, fun i j q r a hij ei ej => ?_⟩
  · rw [start_len (by simp only [List.length_cons]; omega), List.length_cons, List.length_append, List.length_map, List.length_replicate]
    omega
  · cases i with
    | zero =>
      cases ei
      exact ⟨p, o, start_get rfl, h1, but_same, h2, h3⟩
    | succ i =>
      rw [List.getElem?_cons_succ] at ei
      by_cases c : i < ds.length
      · rw [List.getElem?_append_left (by rw [List.length_map]; exact c), List.getElem?_map, List.getElem?_eq_getElem c] at ei
        cases ei
        obtain ⟨v, q1, q2⟩ := h.get (List.getElem?_eq_getElem c)
        exact ⟨v, start_get (by rw [List.getElem?_cons_succ]; exact q1), q2⟩
      · have hm : s ∈ List.replicate (N.length - (ds.length + 1)) Sv.no := by
          rw [List.getElem?_append_right (by rw [List.length_map]; omega)] at ei
          exact List.mem_of_getElem? ei
        rw [List.eq_of_mem_replicate hm]
        trivial
  · cases i with
    | zero =>
      cases j with
      | zero => exact absurd rfl hij
      | succ j => rw [List.getElem?_cons_succ] at ej; exact absurd ej own
    | succ i => rw [List.getElem?_cons_succ] at ei; exact absurd ei own
/-- A DEF THAT DRAWS -/
theorem fnP {x qual : Str} {st : Stmt} {f : Addr} {fd : FuncData} {N ps : List Str} {k n : Nat} {spec : Nat → List PyData → (Nat → Sv → Prop) → Prop} (t : TS) (F : Fun K x qual st f fd) (S : FnScope N ps (defScope st)) (hn : ps.length = n + 1) (hN : n + 1 ≤ N.length)
    (hbody : ∀ (cdv : Value) (A : Around) (outer : List Env) (s : Shared) (H : Hp), Room k (A.deeper (envOfC qual (defScope st) s.heap.objs.size f cdv)) → PSs (cxOf CX0 P w K mg base N qual (defScope st) f cdv A outer s H E0).nox (defBody st) t)
    (h : ∀ p m ds R, ds.length = n → spec m ds R → Sw t (.o (Op p m) :: (ds.map Sv.d ++ List.replicate (N.length - (n + 1)) .no)) (fun Γ' => ∃ m', Γ'[0]? = some (.o (Op p m')) ∧ R m' (.d .none)) (fun Γ' s => ∃ m', Γ'[0]? = some (.o (Op p m')) ∧ R m' s) (fun _ => False) (fun _ => False)) :
    FnOk P w K mg base CX0 (k + 1) f fd ps (SpP n spec) := by
  refine F.ok S (fun vs H Q E ⟨B, p, vs', ds, m, o, R, ev, _, _, _, _, i, hl, _⟩ => by rw [ev, List.length_cons, i.len, hl, hn]) (fun cdv A outer s H vs Q E hr ⟨B, p, vs', ds, m, o, R, ev, e, h1, h2, h3, i, hl, hs, q⟩ => ⟨t, hbody cdv A outer s H hr, ?_⟩)
  subst ev
  have S0 := Sl.enterP (N := N) e h1 h2 h3 i (by omega)
  rw [hl] at S0
  have hk : ∀ {Γ' : List Sv} {B' H' : Hp} {σ' : L2.St}, Sl B (but p H) Γ' B' σ' H' → ∀ a u, a ≠ p → H a = some u → H' a = some u := fun T a u c z => T.h0 a u (by rw [but_of c]; exact z)
  have fin : ∀ {Γ' : List Sv} {B' H' : Hp} {σ' : L2.St} {m' : Nat}, Sl B (but p H) Γ' B' σ' H' → Γ'[0]? = some (.o (Op p m')) → B' p = none ∧ ∃ o', H' p = some o' ∧ (Op p m').φ p B' o' := fun T e0 => by
    obtain ⟨a, o', k1, k2, k3, k4, k5⟩ := T.own e0
    have ea : a = p := by obtain ⟨c, x, l, _, _, z, _⟩ := k5; exact z
    subst ea
    exact ⟨k2, o', k4, k5⟩
  have hnb : ∀ {Γ' : List Sv} {B' H' : Hp} {σ' : L2.St}, Sl B (but p H) Γ' B' σ' H' → B' p = none → ∀ a u, H a = some u → B a = none → B' a = none := fun T z a u w n => by
    by_cases c : a = p
    · rw [c]; exact z
    · exact T.nb a u (by rw [but_of c]; exact w) n
  refine h p m ds R hl hs B (but p H) B _ H _ S0 (fun Γ' B' σ' H' ⟨m', e0, hr'⟩ T eb => ?_) (fun Γ' s' v B' σ' H' ⟨m', e0, hr'⟩ T eb rv => ?_) (fun _ _ _ _ z => z.elim) (fun _ _ _ _ z => z.elim)
  · obtain ⟨z, o', w1, w2⟩ := fin T e0
    exact q m' _ _ B' H' hr' T.b0 T.bh (hk T) (hnb T z) ⟨o', w1, w2⟩ .non
  · obtain ⟨z, o', w1, w2⟩ := fin T e0
    refine q m' s' v B' H' hr' T.b0 T.bh (hk T) (hnb T z) ⟨o', w1, w2⟩ ?_
    cases s' with
    | no => trivial
    | d d => exact rv
    | o r =>
      obtain ⟨a, u, rfl, g1, g2, g3, g4, g5⟩ := rv
      obtain ⟨b, o2, k1, k2, k3, k4, k5⟩ := T.own e0
      have ca : a ≠ p := fun c => by
        subst c
        have eb' : b = a := by obtain ⟨c, x, l, _, _, z, _⟩ := k5; exact z
        subst eb'
        exact g5 0 _ e0 k1
      rw [but_of ca] at g2
      exact ⟨a, u, rfl, g1, g2, g3, g4⟩
end
/-- the pen is looked into -/
theorem sw_open {Nx Bk Ct : List Sv → Prop} {Rt : List Sv → Sv → Prop} {i : Nat} {p : Addr} {n : Nat} (h0 : Γ[i]? = some (.o (Op p n)))
    (h : ∀ c x l, PenOk x l n → c.length ≤ 63 → Sw t (Γ.set i (.o (Oa (· = p) (penD c x l)))) Nx Rt Bk Ct) : Sw t Γ Nx Rt Bk Ct := fun B0 H0 B σ H D S a b c d => by
  obtain ⟨q, o, k1, k2, k3, k4, x, y, l, k5, k6, k7⟩ := S.own h0
  have S' : Sl B0 H0 (Γ.set i (.o (Oa (· = p) (penD x y l)))) B σ H := by
    refine ⟨S.b0, S.h0, S.nb, S.bh, by rw [List.length_set]; exact S.len, fun j s ej => ?_, fun j k q' r b hjk ej ek hj => ?_⟩
    · by_cases c : i = j
      · subst c
        rw [List.getElem?_set_self (lt_of_get h0)] at ej
        cases ej
        exact ⟨q, o, k1, k2, k3, k4, k7⟩
      · rw [List.getElem?_set_ne c] at ej
        exact S.sl j s ej
    · have own : ∀ {m' : Nat} {r : Ow}, (Γ.set i (.o (Oa (· = p) (penD x y l))))[m']? = some (.o r) → ∃ r', Γ[m']? = some (.o r') := fun {m' r} em => by
        by_cases c : i = m'
        · subst c; exact ⟨_, h0⟩
        · rw [List.getElem?_set_ne c] at em; exact ⟨r, em⟩
      obtain ⟨q2, e2⟩ := own ej
      obtain ⟨r2, e3⟩ := own ek
      exact S.ap j k q2 r2 b hjk e2 e3 hj
  exact h x y l k5 k6 B0 H0 B σ H D S' a b c d
/-- what a slot's object is, said more weakly -/
theorem Sl.weak {B0 H0 B H : Hp} {σ : L2.St} (S : Sl B0 H0 Γ B σ H) {i : Nat} {p q : Ow} (h0 : Γ[i]? = some (.o p)) (h : ∀ a B o, p.φ a B o → q.φ a B o) : Sl B0 H0 (Γ.set i (.o q)) B σ H := by
  refine ⟨S.b0, S.h0, S.nb, S.bh, by rw [List.length_set]; exact S.len, fun j s ej => ?_, fun j k q' r b hjk ej ek hj => ?_⟩
  · by_cases c : i = j
    · subst c
      obtain ⟨a, o, k1, k2, k3, k4, k5⟩ := S.own h0
      rw [List.getElem?_set_self (lt_of_get h0)] at ej
      cases ej
      exact ⟨a, o, k1, k2, k3, k4, h a B o k5⟩
    · rw [List.getElem?_set_ne c] at ej
      exact S.sl j s ej
  · have own : ∀ {m' : Nat} {r : Ow}, (Γ.set i (.o q))[m']? = some (.o r) → ∃ r', Γ[m']? = some (.o r') := fun {m' r} em => by
      by_cases c : i = m'
      · subst c; exact ⟨_, h0⟩
      · rw [List.getElem?_set_ne c] at em; exact ⟨r, em⟩
    obtain ⟨q2, e2⟩ := own ej
    obtain ⟨r2, e3⟩ := own ek
    exact S.ap j k q2 r2 b hjk e2 e3 hj
theorem op_weak {p : Addr} {n m : Nat} (h : n ≤ m) : ∀ a B o, (Op p n).φ a B o → (Op p m).φ a B o := fun a B o ⟨c, x, l, ⟨h1, h2, h3⟩, h4⟩ => ⟨c, x, l, ⟨h1, by omega, h3⟩, h4⟩
theorem op_close {p : Addr} {c : List Int} {x l : Int} {n : Nat} (h : PenOk x l n) (hc : c.length ≤ 63) : ∀ a B o, (Oa (· = p) (penD c x l)).φ a B o → (Op p n).φ a B o := fun a B o h' => ⟨c, x, l, h, hc, h'⟩
/-- a slot's object is said more weakly ahead of a statement, behind an expression -/
theorem sw_weak {Nx Bk Ct : List Sv → Prop} {Rt : List Sv → Sv → Prop} {i : Nat} {p q : Ow} (h0 : Γ[i]? = some (.o p)) (h : ∀ a B o, p.φ a B o → q.φ a B o) (k : Sw t (Γ.set i (.o q)) Nx Rt Bk Ct) : Sw t Γ Nx Rt Bk Ct := fun B0 H0 B σ H D S => k B0 H0 B σ H D (S.weak h0 h)
end
end G

/-! ## part 5 -/
set_option Elab.async false
set_option linter.all false
set_option maxRecDepth 100000
set_option maxHeartbeats 1000000
/-! F5: the built-ins over data. -/
namespace G
open PySem PySem.Spec PyProof.Rows L2

def rLenS (K : PySem.W.Frag) : List V → Hp → VK → Prop := fun xs H Q => ∃ p ys, xs = [.ref p] ∧ (SqL K H p ys ∨ SqT K H p ys) ∧ Q (.int ys.length) H
def rListS (K : PySem.W.Frag) : List V → Hp → VK → Prop := fun xs H Q => ∃ p ys, xs = [.ref p] ∧ (SqL K H p ys ∨ SqT K H p ys) ∧ ∀ l, H l = none → Q (.ref l) (upd H l (.lst ys))
def rTupS (K : PySem.W.Frag) : List V → Hp → VK → Prop := fun xs H Q => ∃ p ys, xs = [.ref p] ∧ ((SqL K H p ys ∧ ∀ l, H l = none → Q (.ref l) (upd H l (.tup ys))) ∨ (SqT K H p ys ∧ Q (.ref p) H))
def rAbs : List V → Hp → VK → Prop := fun xs H Q => ∃ i, xs = [.int i] ∧ Q (.int (if i < 0 then -i else i)) H
def rMax2 : List V → Hp → VK → Prop := fun xs H Q => ∃ i j, xs = [.int i, .int j] ∧ Q (.int (if j > i then j else i)) H
def rMin2 : List V → Hp → VK → Prop := fun xs H Q => ∃ i j, xs = [.int i, .int j] ∧ Q (.int (if j < i then j else i)) H
def rInt1 : List V → Hp → VK → Prop := fun xs H Q => (∃ i, xs = [.int i] ∧ Q (.int i) H) ∨ ∃ k, xs = [.bl k] ∧ Q (.int (if k then 1 else 0)) H
def rNotNon : R2 := fun x y H Q => y = .non ∧ Q (.bl (!decide (x = .non))) H
def rJoin (K : PySem.W.Frag) : V → List V → Hp → VK → Prop := fun x xs H Q => ∃ a p, ∃ ys : List Str, x = .str a ∧ xs = [.ref p] ∧ (SqL K H p (ys.map V.str) ∨ SqT K H p (ys.map V.str)) ∧
    (ys.map (·.length)).sum + ys.length * a.length ≤ 16777216 ∧ Q (.str (Txt.join a ys)) H
section
variable {X : Cx}
theorem cr_len : CallR X (.builtin "len") (rLenS X.K) := call_len_seq
theorem cr_list : CallR X (.type "list") (rListS X.K) := call_list_of
theorem cr_tup : CallR X (.type "tuple") (rTupS X.K) := call_tuple_of
theorem cr_abs : CallR X (.builtin "abs") rAbs := call_abs
theorem cr_max2 (hc : X.calm = true) : CallR X (.builtin "max") rMax2 := call_max2 hc
theorem cr_min2 (hc : X.calm = true) : CallR X (.builtin "min") rMin2 := call_min2 hc
theorem cr_int1 : CallR X (.type "int") rInt1 := call_int1
theorem op_notNon : OpR X (compareOp .IsNot) rNotNon := op_notN
theorem mt_ins : MtR X "list.insert" rInsert := mt_insert
theorem mt_joins : MtR X "str.join" (rJoin X.K) := mt_join
end

section
variable {Γ : List Sv} {te ta tb tc : TE} {tt tu : TT} {tas : TA} {K : PySem.W.Frag} {R : List Sv → PyData → Prop} {t u : TS} {to1 to2 : TO}
theorem ed_len (h : Es ta Γ fun Γ1 _ ds => R Γ1 (.int (ds.length : Nat))) : Ed (tCB (rLenS K) (tCons ta tNil)) Γ R := fun B0 H0 B σ H S Q k =>
  h B0 H0 B σ H S _ fun Γ1 b ds a vs B1 H1 h1 S1 e1 g i1 => by
    have hq : SqL K H1 a vs ∨ SqT K H1 a vs := by
      cases b with
      | true => exact .inl (SqL.of g)
      | false => exact .inr (SqT.of g)
    exact ⟨a, vs, rfl, hq, by rw [i1.len]; exact k Γ1 _ _ B1 H1 h1 S1 e1 (.int _)⟩
theorem ew_list {R : List Sv → Sv → Prop} (h : Es ta Γ fun Γ1 _ ds => R Γ1 (.o (Ol ds))) : Ew (tCB (rListS K) (tCons ta tNil)) Γ R := fun B0 H0 B σ H S Q k =>
  h B0 H0 B σ H S _ fun Γ1 b ds a vs B1 H1 h1 S1 e1 g i1 => by
    have hq : SqL K H1 a vs ∨ SqT K H1 a vs := by
      cases b with
      | true => exact .inl (SqL.of g)
      | false => exact .inr (SqT.of g)
    refine ⟨a, vs, rfl, hq, fun l hl => ?_⟩
    have m := S1.made hl i1
    exact k Γ1 _ _ B1 _ h1 m.1 e1 m.2
theorem ed_tupC (h : Es ta Γ fun Γ1 b ds => b = true ∧ R Γ1 (.tuple ds)) : Ed (tCB (rTupS K) (tCons ta tNil)) Γ R := fun B0 H0 B σ H S Q k =>
  h B0 H0 B σ H S _ fun Γ1 b ds a vs B1 H1 ⟨hb, h1⟩ S1 e1 g i1 => by
    subst hb
    refine ⟨a, vs, rfl, .inl ⟨SqL.of g, fun l hl => ?_⟩⟩
    have g' := Grow.new (o := .tup vs) S1.bh hl
    exact k Γ1 _ _ _ _ h1 (S1.grow g') (e1.trans g'.b) (.tup upd_same (i1.up g'.b))
theorem ed_abs (h : Ea tas Γ fun Γ1 xs => ∃ i, xs = [.int i] ∧ R Γ1 (.int (if i < 0 then -i else i))) : Ed (tCB rAbs tas) Γ R := fun B0 H0 B σ H S Q k =>
  h B0 H0 B σ H S _ fun Γ1 xs vs B1 H1 ⟨i, ex, h1⟩ S1 e1 i1 => by
    subst ex
    cases i1 with
    | cons r i1 => cases i1; cases r; exact ⟨i, rfl, k Γ1 _ _ B1 H1 h1 S1 e1 (.int _)⟩
theorem ed_max (h : Ea tas Γ fun Γ1 xs => ∃ i j, xs = [.int i, .int j] ∧ R Γ1 (.int (if j > i then j else i))) : Ed (tCB rMax2 tas) Γ R := fun B0 H0 B σ H S Q k =>
  h B0 H0 B σ H S _ fun Γ1 xs vs B1 H1 ⟨i, j, ex, h1⟩ S1 e1 i1 => by
    subst ex
    cases i1 with
    | cons r i1 => cases i1 with
      | cons r2 i1 => cases i1; cases r; cases r2; exact ⟨i, j, rfl, k Γ1 _ _ B1 H1 h1 S1 e1 (.int _)⟩
theorem ed_min (h : Ea tas Γ fun Γ1 xs => ∃ i j, xs = [.int i, .int j] ∧ R Γ1 (.int (if j < i then j else i))) : Ed (tCB rMin2 tas) Γ R := fun B0 H0 B σ H S Q k =>
  h B0 H0 B σ H S _ fun Γ1 xs vs B1 H1 ⟨i, j, ex, h1⟩ S1 e1 i1 => by
    subst ex
    cases i1 with
    | cons r i1 => cases i1 with
      | cons r2 i1 => cases i1; cases r; cases r2; exact ⟨i, j, rfl, k Γ1 _ _ B1 H1 h1 S1 e1 (.int _)⟩
/-- int(a truth) -/
theorem ed_intB (h : Ea tas Γ fun Γ1 xs => ∃ b, xs = [.bool b] ∧ R Γ1 (.int (if b then 1 else 0))) : Ed (tCB rInt1 tas) Γ R := fun B0 H0 B σ H S Q k =>
  h B0 H0 B σ H S _ fun Γ1 xs vs B1 H1 ⟨i, ex, h1⟩ S1 e1 i1 => by
    subst ex
    cases i1 with
    | cons r i1 => cases i1; cases r; exact .inr ⟨i, rfl, k Γ1 _ _ B1 H1 h1 S1 e1 (.int _)⟩
/-- slices -/
theorem eo_none {R : List Sv → Option Int → Prop} (q : R Γ none) : Eo tNoPart Γ R := fun B0 H0 B σ H S Q k => k Γ _ B H q S (Ex.refl _)
theorem eo_some {R : List Sv → Option Int → Prop} (h : Ed te Γ fun Γ1 x => ∃ i, x = .int i ∧ R Γ1 (some i)) : Eo (tPart te) Γ R := fun B0 H0 B σ H S Q k =>
  h B0 H0 B σ H S _ fun Γ1 x v B1 H1 ⟨i, ex, h1⟩ S1 e1 i1 => by
    subst ex
    exact ⟨i, is_int i1, k Γ1 _ B1 H1 h1 S1 e1⟩
def cutD (ds : List PyData) (lo hi : Option Int) : List PyData := (ds.drop (HT.sIx ds.length 0 lo)).take (HT.sIx ds.length ds.length hi - HT.sIx ds.length 0 lo)
theorem ew_slL {R : List Sv → Sv → Prop} (h : Ed te Γ fun Γ1 x => ∃ ds, x = .list ds ∧ Eo to1 Γ1 fun Γ2 lo => Eo to2 Γ2 fun Γ3 hi => R Γ3 (.o (Ol (cutD ds lo hi)))) : Ew (tSl (rSlL K) te to1 to2) Γ R := fun B0 H0 B σ H S Q k =>
  h B0 H0 B σ H S _ fun Γ1 x v B1 H1 ⟨ds, ex, h1⟩ S1 e1 i1 => h1 _ _ B1 σ H1 S1 _ fun Γ2 lo B2 H2 h2 S2 e2 => h2 _ _ B2 σ H2 S2 _ fun Γ3 hi B3 H3 h3 S3 e3 => by
    subst ex
    obtain ⟨a, vs, rfl, g1, g2⟩ := is_lst (i1.up (e2.trans e3))
    refine ⟨a, vs, rfl, SqL.of (S3.bh _ _ g1), fun p hp => ?_⟩
    have m := S3.made hp (g2.cutV lo hi)
    exact k Γ3 _ _ B3 _ h3 m.1 ((e1.trans e2).trans e3) m.2
theorem cut_whole {α : Type} {xs : List α} {lo hi : Option Int} (h : HT.sIx xs.length 0 lo = 0 ∧ HT.sIx xs.length xs.length hi = xs.length) : (xs.drop (HT.sIx xs.length 0 lo)).take (HT.sIx xs.length xs.length hi - HT.sIx xs.length 0 lo) = xs := by
  rw [h.1, h.2]
  simp
theorem ed_slT (h : Ed te Γ fun Γ1 x => ∃ ds, x = .tuple ds ∧ Eo to1 Γ1 fun Γ2 lo => Eo to2 Γ2 fun Γ3 hi => R Γ3 (.tuple (cutD ds lo hi))) : Ed (tSl (rSlA K) te to1 to2) Γ R := fun B0 H0 B σ H S Q k =>
  h B0 H0 B σ H S _ fun Γ1 x v B1 H1 ⟨ds, ex, h1⟩ S1 e1 i1 => h1 _ _ B1 σ H1 S1 _ fun Γ2 lo B2 H2 h2 S2 e2 => h2 _ _ B2 σ H2 S2 _ fun Γ3 hi B3 H3 h3 S3 e3 => by
    subst ex
    obtain ⟨a, vs, rfl, g1, g2⟩ := is_tup (i1.up (e2.trans e3))
    refine ⟨a, vs, rfl, SqT.of (S3.bh _ _ g1), fun hw => ?_, fun hw p hp => ?_⟩
    · have e : cutD ds lo hi = ds := by
        rw [g2.len] at hw
        exact cut_whole hw
      have h3 : R Γ3 (.tuple (cutD ds lo hi)) := h3
      rw [e] at h3
      exact k Γ3 _ _ B3 _ h3 S3 ((e1.trans e2).trans e3) (.tup g1 g2)
    · have g' := Grow.new (o := .tup (cutV vs lo hi)) S3.bh hp
      exact k Γ3 _ _ _ _ h3 (S3.grow g') (((e1.trans e2).trans e3).trans g'.b) (.tup upd_same ((g2.cutV lo hi).up g'.b))
/-- t + u -/
theorem ed_catT (h : Ed ta Γ fun Γ1 x => ∃ ds, x = .tuple ds ∧ Ed tb Γ1 fun Γ2 y => ∃ es, y = .tuple es ∧ ds.length + es.length ≤ sizeLine ∧ R Γ2 (.tuple (ds ++ es))) : Ed (tOp (rCatA K) ta tb) Γ R := fun B0 H0 B σ H S Q k =>
  h B0 H0 B σ H S _ fun Γ1 x v B1 H1 ⟨ds, ex, h1⟩ S1 e1 i1 => h1 B0 H0 B1 σ H1 S1 _ fun Γ2 y u B2 H2 ⟨es, ey, hz, h2⟩ S2 e2 i2 => by
    subst ex ey
    obtain ⟨a, vs, rfl, g1, g2⟩ := is_tup (i1.up e2)
    obtain ⟨b, ws, rfl, g3, g4⟩ := is_tup i2
    refine ⟨a, b, vs, ws, rfl, rfl, SqT.of (S2.bh _ _ g1), SqT.of (S2.bh _ _ g3), by rw [g2.len, g4.len]; exact hz, fun hx => ?_, fun hx hy => ?_, fun hx hy p hp => ?_⟩
    · subst hx
      cases g2
      exact k Γ2 _ _ B2 H2 h2 S2 (e1.trans e2) (.tup g3 g4)
    · subst hy
      cases g4
      rw [List.append_nil] at h2
      exact k Γ2 _ _ B2 H2 h2 S2 (e1.trans e2) (.tup g1 g2)
    · have g' := Grow.new (o := .tup (vs ++ ws)) S2.bh hp
      exact k Γ2 _ _ _ _ h2 (S2.grow g') ((e1.trans e2).trans g'.b) (.tup upd_same ((g2.app g4).up g'.b))
/-- xs + ys -/
theorem ew_cat {R : List Sv → Sv → Prop} (h : Ed ta Γ fun Γ1 x => ∃ ds, x = .list ds ∧ Ed tb Γ1 fun Γ2 y => ∃ es, y = .list es ∧ ds.length + es.length ≤ sizeLine ∧ R Γ2 (.o (Ol (ds ++ es)))) : Ew (tOp rCat ta tb) Γ R := fun B0 H0 B σ H S Q k =>
  h B0 H0 B σ H S _ fun Γ1 x v B1 H1 ⟨ds, ex, h1⟩ S1 e1 i1 => h1 B0 H0 B1 σ H1 S1 _ fun Γ2 y u B2 H2 ⟨es, ey, hz, h2⟩ S2 e2 i2 => by
    subst ex ey
    obtain ⟨a, vs, rfl, g1, g2⟩ := is_lst (i1.up e2)
    obtain ⟨b, ws, rfl, g3, g4⟩ := is_lst i2
    refine ⟨a, b, vs, ws, rfl, rfl, S2.bh _ _ g1, S2.bh _ _ g3, by rw [g2.len, g4.len]; exact hz, fun p hp => ?_⟩
    have m := S2.made hp (g2.app g4)
    exact k Γ2 _ _ B2 _ h2 m.1 (e1.trans e2) m.2
theorem isAll_rep {B : Hp} {vs : List V} {ds : List PyData} (h : IsAll B vs ds) : ∀ n : Nat, IsAll B (List.replicate n vs).flatten (List.replicate n ds).flatten
  | 0 => .nil
  | n + 1 => by
    rw [List.replicate_succ, List.replicate_succ, List.flatten_cons, List.flatten_cons]
    exact h.app (isAll_rep h n)
/-- xs * k -/
theorem ew_rep {R : List Sv → Sv → Prop} (h : Ed ta Γ fun Γ1 x => ∃ ds, x = .list ds ∧ Ed tb Γ1 fun Γ2 y => ∃ n : Nat, y = .int (n : Int) ∧ ds.length * n ≤ sizeLine ∧ n < 2 ^ 60 ∧ R Γ2 (.o (Ol (List.replicate n ds).flatten))) : Ew (tOp rRep ta tb) Γ R := fun B0 H0 B σ H S Q k =>
  h B0 H0 B σ H S _ fun Γ1 x v B1 H1 ⟨ds, ex, h1⟩ S1 e1 i1 => h1 B0 H0 B1 σ H1 S1 _ fun Γ2 y u B2 H2 ⟨n, ey, hz, hn, h2⟩ S2 e2 i2 => by
    subst ex ey
    obtain ⟨a, vs, rfl, g1, g2⟩ := is_lst (i1.up e2)
    refine ⟨a, n, vs, rfl, is_int i2, S2.bh _ _ g1, by omega, by omega, by rw [g2.len]; exact hz, fun p hp => ?_⟩
    have m := S2.made hp (isAll_rep g2 n)
    exact k Γ2 _ _ B2 _ h2 m.1 (e1.trans e2) m.2
/-- in: of numbers, of texts -/
inductive InB : PyData → PyData → Bool → Prop
  | intL (k : Int) (ns : List Int) : InB (.int k) (.list (ns.map PyData.int)) (decide (k ∈ ns))
  | intT (k : Int) (ns : List Int) : InB (.int k) (.tuple (ns.map PyData.int)) (decide (k ∈ ns))
  | strL (k : Str) (ns : List Str) : InB (.str k) (.list (ns.map PyData.str)) (decide (k ∈ ns))
  | strT (k : Str) (ns : List Str) : InB (.str k) (.tuple (ns.map PyData.str)) (decide (k ∈ ns))
theorem inV_ints (k : Int) (ns : List Int) : inV (.int k) (ns.map V.int) = decide (k ∈ ns) := by
  unfold inV
  rw [Bool.eq_iff_iff, List.any_eq_true, decide_eq_true_eq]
  constructor
  · rintro ⟨y, hy, e⟩
    obtain ⟨j, hj, rfl⟩ := List.mem_map.mp hy
    have : j = k := by simpa [eqV] using e
    rw [← this]; exact hj
  · intro h
    exact ⟨.int k, List.mem_map.mpr ⟨k, h, rfl⟩, by simp [eqV]⟩
theorem inV_strs (k : Str) (ns : List Str) : inV (.str k) (ns.map V.str) = decide (k ∈ ns) := by
  unfold inV
  rw [Bool.eq_iff_iff, List.any_eq_true, decide_eq_true_eq]
  constructor
  · rintro ⟨y, hy, e⟩
    obtain ⟨j, hj, rfl⟩ := List.mem_map.mp hy
    have : j = k := by simpa [eqV] using e
    rw [← this]; exact hj
  · intro h
    exact ⟨.str k, List.mem_map.mpr ⟨k, h, rfl⟩, by simp [eqV]⟩
theorem flat_ints (ns : List Int) : (ns.map V.int).all flatV = true := by
  rw [List.all_eq_true]
  rintro x hx
  obtain ⟨n, _, rfl⟩ := List.mem_map.mp hx
  rfl
theorem flat_strs' (ns : List Str) : (ns.map V.str).all flatV = true := by
  rw [List.all_eq_true]
  rintro x hx
  obtain ⟨n, _, rfl⟩ := List.mem_map.mp hx
  rfl
theorem ed_in {neg : Bool} (ha : Ed ta Γ fun Γ1 x => Ed tb Γ1 fun Γ2 y => ∃ b, InB x y b ∧ R Γ2 (.bool (if neg then !b else b))) : Ed (tOp (rIn K neg) ta tb) Γ R := fun B0 H0 B σ H S Q k =>
  ha B0 H0 B σ H S _ fun Γ1 x v B1 H1 h1 S1 e1 i1 => h1 B0 H0 B1 σ H1 S1 _ fun Γ2 y u B2 H2 ⟨b, hb, h2⟩ S2 e2 i2 => by
    have kk := k Γ2 _ _ B2 H2 h2 S2 (e1.trans e2) (.bl _)
    cases hb with
    | intL j ns =>
      cases i1
      obtain ⟨a, vs, rfl, g1, g2⟩ := is_lst i2
      have := g2.ints_inv
      subst this
      exact ⟨a, _, rfl, .inl (SqL.of (S2.bh _ _ g1)), rfl, flat_ints ns, by rw [inV_ints]; exact kk⟩
    | intT j ns =>
      cases i1
      obtain ⟨a, vs, rfl, g1, g2⟩ := is_tup i2
      have := g2.ints_inv
      subst this
      exact ⟨a, _, rfl, .inr (SqT.of (S2.bh _ _ g1)), rfl, flat_ints ns, by rw [inV_ints]; exact kk⟩
    | strL j ns =>
      cases i1
      obtain ⟨a, vs, rfl, g1, g2⟩ := is_lst i2
      have := g2.strs_inv
      subst this
      exact ⟨a, _, rfl, .inl (SqL.of (S2.bh _ _ g1)), rfl, flat_strs' ns, by rw [inV_strs]; exact kk⟩
    | strT j ns =>
      cases i1
      obtain ⟨a, vs, rfl, g1, g2⟩ := is_tup i2
      have := g2.strs_inv
      subst this
      exact ⟨a, _, rfl, .inr (SqT.of (S2.bh _ _ g1)), rfl, flat_strs' ns, by rw [inV_strs]; exact kk⟩
/-- in a list of data -/
theorem ed_inD (ha : Ed ta Γ fun Γ1 x => Ed tb Γ1 fun Γ2 y => ∃ ds, y = .list ds ∧ SeqAt.shaped x = true ∧ SeqAt.shaped (.list ds) = true ∧ R Γ2 (.bool (ds.any fun z => PyData.eqv z x))) : Ed (tOp (rInD K) ta tb) Γ R := fun B0 H0 B σ H S Q k =>
  ha B0 H0 B σ H S _ fun Γ1 x v B1 H1 h1 S1 e1 i1 => h1 B0 H0 B1 σ H1 S1 _ fun Γ2 y u B2 H2 ⟨ds, ey, hx, hy, h2⟩ S2 e2 i2 => by
    subst ey
    exact ⟨x, ds, Is.dp K _ _ ((i1.up e2).up S2.bh), Is.dp K _ _ (i2.up S2.bh), hx, hy, k Γ2 _ _ B2 H2 h2 S2 (e1.trans e2) (.bl _)⟩
/-- xs.index(e): the first place; numbers, texts -/
theorem idx_first {α : Type} [DecidableEq α] : ∀ {xs : List α} {x : α}, x ∈ xs → xs[xs.idxOf x]? = some x ∧ ∀ (m : Nat) (z : α), m < xs.idxOf x → xs[m]? = some z → z ≠ x
  | y :: ys, x, h => by
    by_cases c : y = x
    · subst c
      rw [List.idxOf_cons_self]
      exact ⟨rfl, fun m z hm _ => absurd hm (Nat.not_lt_zero _)⟩
    · have hx : x ∈ ys := by
        rcases List.mem_cons.mp h with e | e
        · exact absurd e.symm c
        · exact e
      obtain ⟨h1, h2⟩ := idx_first hx
      have e : (y :: ys).idxOf x = ys.idxOf x + 1 := by rw [List.idxOf_cons, show (y == x) = false from beq_eq_false_iff_ne.mpr c]; rfl
      rw [e]
      refine ⟨by rw [List.getElem?_cons_succ]; exact h1, fun m z hm hz => ?_⟩
      cases m with
      | zero => cases hz; exact c
      | succ m => rw [List.getElem?_cons_succ] at hz; exact h2 m z (by omega) hz
theorem ed_index (h : Ed ta Γ fun Γ1 x => ∃ ns : List Int, x = .list (ns.map PyData.int) ∧ Ed tb Γ1 fun Γ2 y => ∃ j, y = .int j ∧ j ∈ ns ∧ R Γ2 (.int (ns.idxOf j : Nat))) : Ed (tBM K "list" (rIndex K) ta (tCons tb tNil)) Γ R := fun B0 H0 B σ H S Q k =>
  h B0 H0 B σ H S _ fun Γ1 x v B1 H1 ⟨ns, ex, h1⟩ S1 e1 i1 => by
    subst ex
    obtain ⟨a, vs, rfl, g1, g2⟩ := is_lst i1
    have hv := g2.ints_inv
    refine ⟨.inl ⟨rfl, vs, SqL.of (S1.bh _ _ g1)⟩, h1 B0 H0 B1 σ H1 S1 _ fun Γ2 y u B2 H2 ⟨j, ey, hj, h2⟩ S2 e2 i2 => ?_⟩
    subst ey hv
    obtain ⟨f1, f2⟩ := idx_first hj
    refine ⟨a, _, .int j, ns.idxOf j, .int j, rfl, by rw [is_int i2], SqL.of (S2.bh _ _ (e2 _ _ g1)), rfl, flat_ints ns, by rw [List.getElem?_map, f1]; rfl, by simp [eqV], fun m z hm hz => ?_, k Γ2 _ _ B2 H2 h2 S2 (e1.trans e2) (.int _)⟩
    rw [List.getElem?_map] at hz
    cases q : ns[m]? with
    | none => rw [q] at hz; cases hz
    | some w =>
      rw [q] at hz
      cases hz
      have := f2 m w hm q
      simp [eqV, this]
theorem ed_indexS (h : Ed ta Γ fun Γ1 x => ∃ ns : List Str, x = .list (ns.map PyData.str) ∧ Ed tb Γ1 fun Γ2 y => ∃ j, y = .str j ∧ j ∈ ns ∧ R Γ2 (.int (ns.idxOf j : Nat))) : Ed (tBM K "list" (rIndex K) ta (tCons tb tNil)) Γ R := fun B0 H0 B σ H S Q k =>
  h B0 H0 B σ H S _ fun Γ1 x v B1 H1 ⟨ns, ex, h1⟩ S1 e1 i1 => by
    subst ex
    obtain ⟨a, vs, rfl, g1, g2⟩ := is_lst i1
    have hv := g2.strs_inv
    refine ⟨.inl ⟨rfl, vs, SqL.of (S1.bh _ _ g1)⟩, h1 B0 H0 B1 σ H1 S1 _ fun Γ2 y u B2 H2 ⟨j, ey, hj, h2⟩ S2 e2 i2 => ?_⟩
    subst ey hv
    obtain ⟨f1, f2⟩ := idx_first hj
    refine ⟨a, _, .str j, ns.idxOf j, .str j, rfl, by rw [is_str i2], SqL.of (S2.bh _ _ (e2 _ _ g1)), rfl, flat_strs' ns, by rw [List.getElem?_map, f1]; rfl, by simp [eqV], fun m z hm hz => ?_, k Γ2 _ _ B2 H2 h2 S2 (e1.trans e2) (.int _)⟩
    rw [List.getElem?_map] at hz
    cases q : ns[m]? with
    | none => rw [q] at hz; cases hz
    | some w =>
      rw [q] at hz
      cases hz
      have := f2 m w hm q
      simp [eqV, this]
/-- sep.join(list of texts) -/
theorem ed_join (h : Ed ta Γ fun Γ1 x => ∃ a, x = .str a ∧ Ed tb Γ1 fun Γ2 y => ∃ ys : List Str, y = .list (ys.map PyData.str) ∧ (ys.map (·.length)).sum + ys.length * a.length ≤ 16777216 ∧ R Γ2 (.str (Txt.join a ys))) : Ed (tM1 (rJoin K) ta tb) Γ R := fun B0 H0 B σ H S Q k =>
  h B0 H0 B σ H S _ fun Γ1 x v B1 H1 ⟨a, ex, h1⟩ S1 e1 i1 => by
    subst ex
    refine ⟨⟨a, is_str i1⟩, h1 B0 H0 B1 σ H1 S1 _ fun Γ2 y u B2 H2 ⟨ys, ey, hz, h2⟩ S2 e2 i2 => ?_⟩
    subst ey
    obtain ⟨p, vs, rfl, g1, g2⟩ := is_lst i2
    have hv := g2.strs_inv
    subst hv
    exact ⟨a, p, ys, is_str i1, rfl, .inl (SqL.of (S2.bh _ _ g1)), hz, k Γ2 _ _ B2 H2 h2 S2 (e1.trans e2) (.str _)⟩
/-- list(range(n)) -/
theorem rgV_is (B : Hp) (n : Nat) : IsAll B (rgV 0 (n : Int)) (rngD n) := by
  have e : rgV 0 (n : Int) = ((List.range n).map fun (j : Nat) => ((j : Int))).map V.int := by
    unfold rgV
    rw [List.map_map]
    have : ((n : Int) - 0).toNat = n := by omega
    rw [this]
    refine List.map_congr_left fun j _ => ?_
    show V.int (0 + (j : Int)) = V.int (j : Int)
    rw [Int.zero_add]
  have e2 : rngD n = ((List.range n).map fun (j : Nat) => ((j : Int))).map PyData.int := by
    unfold rngD
    rw [List.map_map]
    rfl
  rw [e, e2]
  exact IsAll.ints _
theorem ew_listRg {R : List Sv → Sv → Prop} (h : Ed te Γ fun Γ1 x => ∃ n : Nat, x = .int (n : Int) ∧ n ≤ 1000 ∧ R Γ1 (.o (Ol (rngD n)))) : Ew (tLstRg (tRg1 te)) Γ R := fun B0 H0 B σ H S Q k =>
  h B0 H0 B σ H S _ fun Γ1 x v B1 H1 ⟨n, ex, hn, h1⟩ S1 e1 i1 => by
    subst ex
    refine ⟨n, is_int i1, RgOk.of_le (by omega) (by omega) (by omega) (by omega), fun q hq => ?_⟩
    have m := S1.made hq (rgV_is B1 n)
    exact k Γ1 _ _ B1 _ h1 m.1 e1 m.2
/-- e is not None, e data or a new object -/
theorem ed_notNon (h : Ew te Γ fun Γ1 s => s ≠ .no ∧ (∀ d, s = .d d → d ≠ .none → R Γ1 (.bool true)) ∧ (s = .d .none → R Γ1 (.bool false)) ∧ ∀ p, s = .o p → R Γ1 (.bool true)) : Ed (tOp rNotNon te (tC .non)) Γ R := fun B0 H0 B σ H S Q k =>
  h B0 H0 B σ H S _ fun Γ1 s v B1 H1 ⟨h0, h1, h2, h3⟩ S1 e1 i1 => by
    refine ⟨rfl, ?_⟩
    cases s with
    | no => exact absurd rfl h0
    | d d =>
      cases i1 with
      | non => exact k Γ1 _ _ B1 H1 (h2 rfl) S1 e1 (.bl _)
      | bl b => exact k Γ1 _ _ B1 H1 (h1 _ rfl (by simp)) S1 e1 (.bl _)
      | int b => exact k Γ1 _ _ B1 H1 (h1 _ rfl (by simp)) S1 e1 (.bl _)
      | str b => exact k Γ1 _ _ B1 H1 (h1 _ rfl (by simp)) S1 e1 (.bl _)
      | lst a b => exact k Γ1 _ _ B1 H1 (h1 _ rfl (by simp)) S1 e1 (.bl _)
      | tup a b => exact k Γ1 _ _ B1 H1 (h1 _ rfl (by simp)) S1 e1 (.bl _)
    | o p =>
      obtain ⟨a, o, rfl, _⟩ := i1
      exact k Γ1 _ _ B1 H1 (h3 p rfl) S1 e1 (.bl _)
/-- isinstance(x, tuple) of a tuple -/
theorem ed_isTup (h : Ed te Γ fun Γ1 x => ∃ ds, x = .tuple ds ∧ R Γ1 (.bool true)) : Ed (tCB (rIsi K) (tCons te (tCons (tC (.ty "tuple")) tNil))) Γ R := fun B0 H0 B σ H S Q k =>
  h B0 H0 B σ H S _ fun Γ1 x v B1 H1 ⟨ds, ex, h1⟩ S1 e1 i1 => by
    subst ex
    obtain ⟨a, vs, rfl, g1, g2⟩ := is_tup i1
    exact ⟨.ref a, .ty "tuple", .type "tuple", .type "tuple", true, rfl, .ty _, .base (.tup (S1.bh _ _ g1)), kit_ty (by decide +kernel), k Γ1 _ _ B1 H1 h1 S1 e1 (.bl _)⟩
end
end G

/-! ## part 6 -/
set_option Elab.async false
set_option linter.all false
set_option maxRecDepth 100000
set_option maxHeartbeats 2000000
/-! F6: enumerate(tuple); sorted of data. -/
namespace G
open PySem PySem.Spec PyProof.Rows L2
open AutoSeq1 (wpAny_loadPart')

/-! ### enumerate(tuple) -/
theorem meets_enumerate_newT (l : Addr) (items : Array Value) (n : Nat) (dct : Option Addr) (sl : Array (Option Value)) :
    Meets (Builtin.«enumerate.__new__» ⟨[.type "enumerate", .ref l], []⟩) (fun _ R s => s.heap.get? l = some { cls := .type "tuple", dict := dct, data := .seq items n, slots := sl } ∧
      R (.ok (.ret (.ref (s.heap.push { cls := .type "tuple_iterator", data := .fields #[.ref l, .int 0 0] }).objs.size)))
        { s with heap := (s.heap.push { cls := .type "tuple_iterator", data := .fields #[.ref l, .int 0 0] }).push { cls := .type "enumerate", data := .fields #[.none, .bool false, .ref s.heap.objs.size, rawInt 0, .none, .none] } }) :=
  .of_wp fun prog w A R s h => by
    obtain ⟨hp, g, d, tk, os⟩ := s; obtain ⟨hl, h⟩ := h
    have hsub := sub_enumerate
    have hL : Heap.IsTuple (Shared.heap ⟨hp, g, d, tk, os⟩) l items := ⟨_, hl, rfl, n, rfl⟩
    wp_walk using wpAny_loadPart' hl
    refine wpAny_stack_any fun st => wpAny_pure ?_
    split
    · rename_i c _ _ _ _ _
      cases (c == Value.type "enumerate")
      · wp_walk using wpAny_loadPart' hl, wpAny_pyIter_tuple hL
        exact ⟨_, rfl, h⟩
      · wp_walk using wpAny_loadPart' hl, wpAny_pyIter_tuple hL
        exact ⟨_, rfl, h⟩
    · wp_walk using wpAny_loadPart' hl, wpAny_pyIter_tuple hL
      exact ⟨_, rfl, h⟩
section
variable {prog : Program} {w : World} {A : Around} {E : Value → Shared → Prop} {s : Shared}
theorem call_enumerate_tuple {l : Addr} {items : Array Value} {Q : Value → Shared → Prop} (hL : s.heap.IsTuple l items)
    (h : ∀ h', IsEnum h' (s.heap.objs.size + 1) s.heap.objs.size 0 .none → h'.IsTupleIter s.heap.objs.size l 0 → h'.objs.size = s.heap.objs.size + 2 →
      (∀ b o, s.heap.get? b = some o → h'.get? b = some o) → Q (.ref (s.heap.objs.size + 1)) { s with heap := h' }) :
    wpAny (model prog w) A (call (.type "enumerate") [.ref l]) Q E s := by
  obtain ⟨⟨c, dct, dt, sl⟩, hl, hc, n, hd⟩ := hL
  replace hc : c = .type "tuple" := hc
  replace hd : dt = .seq items n := hd
  subst hc hd
  refine callType_new F.called_enumerate (by decide) (F.typeCall_enumerate_1 _) (F.newCall_enumerate_1 _) (fun obj => F.args_object_init_2 obj _) F.entry_enumerate_new
    (meets_enumerate_newT l items n dct sl) ⟨hl, ?_⟩
  have hz : (s.heap.push { cls := .type "tuple_iterator", data := .fields #[.ref l, .int 0 0] }).objs.size = s.heap.objs.size + 1 := Heap.size_push ..
  show _ ∧ _
  rw [hz]
  have he : IsEnum ((s.heap.push { cls := .type "tuple_iterator", data := .fields #[.ref l, .int 0 0] }).push
      { cls := .type "enumerate", data := .fields #[.none, .bool false, .ref s.heap.objs.size, rawInt 0, .none, .none] }) (s.heap.objs.size + 1) s.heap.objs.size 0 .none := by
    have := Heap.get?_push_size (s.heap.push { cls := .type "tuple_iterator", data := .fields #[.ref l, .int 0 0] })
      (o := { cls := .type "enumerate", data := .fields #[.none, .bool false, .ref s.heap.objs.size, rawInt 0, .none, .none] }) rfl
    rw [hz] at this; exact this
  refine ⟨⟨_, he, rfl⟩, h _ he ⟨_, Heap.get?_push_of_some _ (Heap.get?_push_size _ rfl), rfl, rfl⟩ (by rw [Heap.size_push, hz]) fun b o x => Heap.get?_push_of_some _ (Heap.get?_push_of_some _ x)⟩
end
/-- the tuple at a, each item in a new pair -/
def IteT (K : PySem.W.Frag) (a : Addr) : It :=
  ⟨fun i H => ∃ (xs : List V) (x : V), SqT K H a xs ∧ xs[i]? = some x, fun i H v H' => ∃ T x, v = .ref T ∧ H T = none ∧ H' = upd H T (.tup [.int (i : Nat), x]) ∧ ∀ xs, SqT K H a xs → xs[i]? = some x, fun i H => ∃ xs : List V, SqT K H a xs ∧ xs.length ≤ i⟩
theorem turn_enumT {P : Program} {w : World} {K : PySem.W.Frag} {elts : List Expr} {kk : Nat} {tpos : Pos} (a e it : Addr) :
    Turn P w K (.Tuple elts kk tpos) (IteT K a) [e, it] e (fun i h => (∃ old, IsEnum h e it ((i : Nat) : Int) old) ∧ h.IsTupleIter it a i ∧ e ≠ it ∧ a ≠ it ∧ a ≠ e) where
  mem := by simp
  obj := fun i h st b hb => by
    obtain ⟨⟨old, he⟩, ⟨o, ho, hc, hd⟩, _⟩ := st
    have e' : b = e ∨ b = it := by simpa using hb
    rcases e' with z | z
    · rw [z]; exact ⟨_, he, fun v q => nomatch q⟩
    · rw [z]; exact ⟨o, ho, fun v q => by rw [hd] at q; cases q⟩
  keep := fun i h h' st k => let ⟨⟨old, he⟩, hi, hne⟩ := st; ⟨⟨old, k e (by simp) _ he⟩, hi.at fun o q => k it (by simp) o q, hne⟩
  item := by
    intro X hP hw hK hc i pins s σ H E I hf st hg
    subst hP hw hK
    obtain ⟨⟨old, he⟩, hit, hne, hai, hae⟩ := st
    obtain ⟨xs, x, hq, hx⟩ := hg
    obtain ⟨its, rv, p, hz⟩ := I.tuple hq
    obtain ⟨u, hu, ru⟩ := rv.get hx
    have hel : e < s.heap.objs.size := Heap.lt_size he
    have hil : it < s.heap.objs.size := by obtain ⟨_, q, _⟩ := hit; exact Heap.lt_size q
    have hT0 : s.heap.IsTuple a its.toArray := p
    have hlt : i < its.toArray.size := by have := lt_of_get hu; simpa using this
    refine wpAny_pyNext_enum_itemD (Draws.tuple (prog := X.prog) (w := X.w) (A := X.A.in1) (show X.A.in1.handled = none from I.ok.hd hc) it a hai its.toArray) he ⟨hit, hT0⟩ hlt hne (by simp [hne, Ne.symm hae]) fun x' h' tk hx' ho hit' hT hsz hk => ?_
    have ex : x' = u := by
      rw [show its.toArray[i]? = some u by simpa using hu] at hx'
      exact (Option.some.inj hx').symm
    subst ex
    refine ⟨_, rfl, wpAny_letOwnedTupleGo_enum (s := { s with heap := h', toks := tk + 1 }) ho fun h'' he' sb => ?_⟩
    have hT2 : h''.get? s.heap.objs.size = some { cls := .type "tuple", data := .seq #[.int i tk, x'] } := (sb.2 _ (Nat.ne_of_gt hel)).trans hT
    have new : ObjOk X.prog X.w (upd H s.heap.objs.size (.tup [.int (i : Nat), x])) h'' s.heap.objs.size (.tup [.int (i : Nat), x]) :=
      ⟨by show 2 ≤ sizeLine; decide, [.int i tk, x'], .cons ⟨_, rfl⟩ (.cons ru .nil), ⟨_, hT2, rfl, _, rfl⟩⟩
    have I1 : Inv X pins σ (upd H s.heap.objs.size (.tup [.int (i : Nat), x])) { s with heap := h'', toks := tk + 1 } :=
      I.turnedNew (ch := [e, it]) (fun b ob hb q => (sb.2 b (fun z => hb (by simp [z]))).trans (hk b ob (fun z => hb (by simp [z])) (fun z => hb (by simp [z])) q)) hf (Nat.le_refl _) new
    refine ⟨.ref s.heap.objs.size, _, I1, rfl, ⟨_, x, rfl, I.hok.fresh (Nat.le_refl _), rfl, fun ys hy => by rw [I.tuple_inj hy hq]; exact hx⟩, ⟨⟨x', ?_⟩, hit'.1.at fun o q => (sb.2 it (Ne.symm hne)).trans q, hne, hai, hae⟩, fun b hb => ?_⟩
    · have e1 : ((i + 1 : Nat) : Int) = (i : Int) + 1 := by omega
      rw [e1]; exact he'
    · have hb' : b < s.heap.objs.size := by
        have e' : b = e ∨ b = it := by simpa using hb
        rcases e' with z | z
        · rw [z]; exact hel
        · rw [z]; exact hil
      rw [upd_ne (Nat.ne_of_lt hb')]
      exact (hf b hb).1
  done := by
    intro X hP hw hK hc i pins s σ H E I hf st hg
    subst hP hw hK
    obtain ⟨⟨old, he⟩, hit, hne, hai, hae⟩ := st
    obtain ⟨xs, hq, hx⟩ := hg
    obtain ⟨its, rv, p, hz⟩ := I.tuple hq
    obtain ⟨f0, f1, f2, f3, f4, f5⟩ := hf it (by simp)
    have hl := rv.length
    have hT0 : s.heap.IsTuple a its.toArray := p
    unfold pyNext
    refine wpAny_bind (wpAny_attempt (wpAny_callSpecial?_slot (name := Str.ofString "__next__") ⟨_, he, rfl⟩ F.slot_enumerate_next
      (wpAny_call_entry F.slot_enumerate_next ⟨_, he, rfl⟩ F.entry_enumerate_next ?_ (F.args_enumerate_next_1 _))))
    show wpAny _ _ (field (.ref e) 2 >>= _) _ _ _
    refine wpAny_bind (wpAny_field he rfl (x := .ref it) rfl ?_)
    refine wpAny_bind (wpAny_nextOf_tuple_end (I.ok.hd hc) hit hT0 (Array.getElem?_eq_none (by simp; omega)) fun h' x he' hx' => ?_)
    obtain ⟨o, ho, hcl⟩ := hx'
    refine wpAny_bind (wpAny_isInstance (T := "StopIteration") (b := true) ⟨o, ho, hcl⟩ isSubtype_stop ?_)
    exact wpAny_pure ⟨rfl, I.turned (t' := s.toks) (fun b o hb q => he' b o hb q) f0 f1 f3 f4 f5⟩
  self := fun A i s Q E st h => let ⟨⟨_, he⟩, _⟩ := st; wpAny_pyIter_enum he h
def iEnumT (K : PySem.W.Frag) (ta : TA) : TI := fun σ H R => ta σ H fun vs H1 => ∃ a xs, vs = [.ref a] ∧ SqT K H1 a xs ∧ R (IteT K a) H1
theorem pi_enumT {X : Cx} {e : Expr} {ta : TA} {p pos tpos : Pos} {elts : List Expr} {kk : Nat} (hg : Gl X "enumerate") (hm : X.mg "enumerate" = none) (ha : PA X [e] ta) (hs : starEach [e] X.env = [(false, eval e X.env)] := by rfl) :
    PI X (.Tuple elts kk tpos) (.Call (.Name "enumerate" p) [e] [] pos) (iEnumT X.K ta) := by
  refine ⟨fun pins s σ H R I h => ?_⟩
  refine Call_ (ld_blt I hg hm boot_enumerate (PyProof.Rows.callWith_type1 (thn (ha.run pos pins s σ H _ I h) fun us s1 ⟨vs, H1, I1, r1, q1⟩ => ?_) hs rfl))
  obtain ⟨a, xs, ex, hq, q⟩ := q1
  subst ex
  cases r1 with
  | cons r rr =>
    cases rr
    cases r
    obtain ⟨its, rv, p', hz⟩ := I1.tuple hq
    have hal : a < s1.heap.objs.size := p'.lt
    refine call_enumerate_tuple (show s1.heap.IsTuple a its.toArray from p') fun h' he hit hsz hk => wpAny_pyIter_enum he ?_
    have I2 : Inv X pins σ H1 { s1 with heap := h' } := I1.kept (t' := s1.toks) hk
    refine ⟨s1.heap.objs.size + 1, [s1.heap.objs.size + 1, s1.heap.objs.size], _, _, H1, rfl, I2, turn_enumT a (s1.heap.objs.size + 1) s1.heap.objs.size, ⟨⟨.none, he⟩, hit, Nat.succ_ne_self _, Nat.ne_of_lt hal, Nat.ne_of_lt (Nat.lt_succ_of_lt hal)⟩, fun b hb => ?_, q⟩
    have e' : b = s1.heap.objs.size + 1 ∨ b = s1.heap.objs.size := by simpa using hb
    have hle : s1.heap.objs.size ≤ b := by
      rcases e' with z | z
      · rw [z]; exact Nat.le_add_right _ _
      · rw [z]; exact Nat.le_refl _
    exact I1.fpOk hle (I1.hok.fresh hle)
theorem iw_enumT {Γ : List Sv} {tas : TA} {K : PySem.W.Frag} {R' : List Sv → List PyData → Prop} (h : Ea tas Γ fun Γ1 xs => ∃ ds, xs = [.tuple ds] ∧ R' Γ1 (enumD ds)) : Iw (iEnumT K tas) Γ R' := fun B0 H0 B σ H S Q k =>
  h B0 H0 B σ H S _ fun Γ1 xs vs B1 H1 ⟨ds, ex, h1⟩ S1 e1 i1 => by
    subst ex
    cases i1 with
    | cons r1 i1 =>
      cases i1
      obtain ⟨a, vs, rfl, g1, g2⟩ := is_tup r1
      refine ⟨a, vs, rfl, SqT.of (S1.bh _ _ g1), k Γ1 _ _ B1 H1 h1 S1 e1 fun B2 H2 j e2 e3 => ⟨fun d hd => ?_, fun hl => ⟨vs, SqT.of (e3 _ _ (e2 _ _ g1)), by rw [g2.len]; rw [enumD_len] at hl; exact hl⟩⟩⟩
      obtain ⟨f, hf, rfl⟩ := enumD_get hd
      obtain ⟨w, q1, q2⟩ := g2.get hf
      refine ⟨⟨vs, w, SqT.of (e3 _ _ (e2 _ _ g1)), q1⟩, fun x H' hy => ?_⟩
      obtain ⟨T, x', rfl, hT, rfl, hy⟩ := hy
      have q3 := hy vs (SqT.of (e3 _ _ (e2 _ _ g1)))
      rw [q1] at q3
      cases q3
      exact gv_pair (B1 := B1) e3 hT (.int _) (q2.up e2)

/-! ### sorted of data -/
section
variable {prog : Program} {w : World} {A : Around} {E : Value → Shared → Prop} {s : Shared}
theorem collect_tuple {l : Addr} {vs : List Value} {Q : List Value → Shared → Prop} (hl : s.heap.IsTuple l vs.toArray) (hsz : vs.length ≤ sizeLine)
    (h : Q vs { s with heap := (s.heap.push (seqObj "list" #[] 0)).update s.heap.objs.size (Obj.mapSeq (· ++ vs.toArray)) }) :
    wpAny (model prog w) A (collect (.ref l)) Q E s := by
  obtain ⟨o, ho, hc, n, hd⟩ := id hl
  unfold collect
  refine wpAny_bind (wpAny_runValue (codeAny_builtin entry_proto_collect' ?_))
  show wpAny _ _ (do again (.builtin "list.__iadd__" ⟨[← newList [], .ref l], []⟩)) _ _ s
  refine wpAny_bind (wpAny_newList (wpAny_pure ⟨Code.quiet_builtin _ (by decide +kernel), codeAny_builtin entry_list_iadd' ?_⟩))
  show wpAny _ _ (Builtin.List.listExtendWith (.ref s.heap.objs.size) (.ref l) (.ref s.heap.objs.size)) _ _ { s with heap := s.heap.push (seqObj "list" #[] 0) }
  unfold Builtin.List.listExtendWith
  have ho' : (s.heap.push (seqObj "list" #[] 0)).get? l = some o := Heap.get?_push_of_some _ ho
  refine wpAny_bind (wpAny_typeOf (T := "tuple") ⟨o, ho', hc⟩ ?_)
  have ht : (Value.type "tuple" == Value.type "tuple") = true := by rfl
  rw [if_pos (by rw [ht]; simp)]
  refine wpAny_bind (listItems_at ho' hd ?_)
  refine wpAny_bind (listItems_at (xs := #[]) (n := 0) (Heap.get?_push_size _ rfl) rfl ?_)
  rw [if_neg (by simp)]
  refine wpAny_bind (listUpdate_at (xs := #[]) (n := 0) (Heap.get?_push_size _ rfl) rfl ?_ (Nat.zero_le _) (by show (#[] ++ vs.toArray).size ≤ sizeLine + 1; simp only [Array.size_append, List.size_toArray, List.length_nil]; omega))
  refine wpAny_pure ?_
  show wpAny (model prog w) A (do
      let o ← load s.heap.objs.size
      match o.data with
      | .seq xs _ => pure xs.toList
      | _ => unsupported "internal:collect") Q E { s with heap := (s.heap.push (seqObj "list" #[] 0)).update s.heap.objs.size (Obj.mapSeq (· ++ vs.toArray)) }
  refine wpAny_bind (wpAny_load (get?_update_seq (Heap.get?_push_size _ rfl) _) ?_)
  show wpAny _ _ (pure ((#[] : Array Value) ++ vs.toArray).toList) Q E _
  rw [show ((#[] : Array Value) ++ vs.toArray).toList = vs by simp]
  exact wpAny_pure h
/-- sorted of what is gathered -/
theorem sorted_coll {β : Type} {a : Value} {enc : β → PyData} {Rr : Value → β → Prop} {Q : Value → Shared → Prop}
    (col : ∀ E' : Value → Shared → Prop, wpAny (model prog w) A.in1 (collect a) (fun vs s1 => ∃ bs : List β, (∀ b o, s.heap.get? b = some o → s1.heap.get? b = some o) ∧ s.heap.objs.size ≤ s1.heap.objs.size ∧ s1.gens = s.gens ∧ s1.os = s.os ∧ PySem.W.EachIs Rr vs bs ∧ PySem.W.EachIs (fun v b => ∃ as, Reads s1.heap v (enc b) as) vs bs ∧
      PySem.W.AllAlike (bs.map enc) ∧ PySem.W.Sortable (bs.map enc) ∧ bs.length ≤ sizeLine ∧ (∀ b ∈ bs, A.units + 2 + (enc b).depth < cLine) ∧
      ∀ s' p (out : List Value) (c : Nat), (∀ b o, s.heap.get? b = some o → s'.heap.get? b = some o) → s'.gens = s.gens → s'.os = s.os → s.heap.objs.size ≤ p → s'.heap.get? p = some (seqObj "list" out.toArray c) → PySem.W.EachIs Rr out (bs.mergeSort (PySem.W.dataLe false enc)) → Q (.ref p) s') E' s) :
    wpAny (model prog w) A (call (.builtin "sorted") [a]) Q E s := by
  refine Calls.call_function_entry kind_sorted plain_sorted entry_sorted (args_sorted1 _) ?_
  unfold Builtin.«sorted»
  refine wpAny_bind (m := checkCount "sorted" 1 1 _) (wpAny_pure ?_)
  refine wpAny_bind (wpAny_mono (col E) (fun vs s1 hh => ?_) fun _ _ z => z)
  obtain ⟨bs, k1, hz1, g1, o1, e, er, hal, hk, hL, hu, hQ⟩ := hh
  have hvl : vs.length ≤ sizeLine := by rw [e.length]; exact hL
  refine wpAny_bind (wpAny_newList ?_ hvl)
  have hoL : (s1.heap.push (seqObj "list" vs.toArray 0)).get? s1.heap.objs.size = some (seqObj "list" vs.toArray 0) := Heap.get?_push_size _ rfl
  have old : ∀ b o, s1.heap.get? b = some o → b ≠ s1.heap.objs.size ∧ (s1.heap.push (seqObj "list" vs.toArray 0)).get? b = some o := fun b o q => ⟨Nat.ne_of_lt (Heap.lt_size q), Heap.get?_push_of_some _ q⟩
  have er' : PySem.W.EachIs (fun v b => ∃ as, Reads (PySem.W.sortingHeap (s1.heap.push (seqObj "list" vs.toArray 0)) s1.heap.objs.size vs) v (enc b) as) vs bs := er.mono fun _ _ ⟨as, r⟩ => ⟨as, PyProof.Rows.Reads.keeps (fun b o q => PySem.W.sortingHeap_old (old b o q).1 (old b o q).2) r⟩
  refine wpAny_bind (wpAny_holding (wpAny_call_entry slot_list_sort ⟨_, hoL, rfl⟩ entry_list_sort
    (PySem.W.list_sort_vals (s := { s1 with heap := s1.heap.push (seqObj "list" vs.toArray 0) }) (κ := PySem.W.dataKind (PySem.W.sortingHeap (s1.heap.push (seqObj "list" vs.toArray 0)) s1.heap.objs.size vs) (bs.map enc)) hoL
      (PySem.W.SortsAt.data (s := { s1 with heap := PySem.W.sortingHeap (s1.heap.push (seqObj "list" vs.toArray 0)) s1.heap.objs.size vs }) (PySem.W.each_map (R := fun v d => ∃ as, Reads (PySem.W.sortingHeap (s1.heap.push (seqObj "list" vs.toArray 0)) s1.heap.objs.size vs) v d as) enc er') hal hk (PySem.W.bound_map (A := A.in1.in1) hu)) hvl ⟨_, rfl, ?_⟩) (args_list_sort _)))
  obtain ⟨c, hc⟩ := sortedHeap_at (vs := vs) (out := (PySem.W.sortVals (PySem.W.dataKind (PySem.W.sortingHeap (s1.heap.push (seqObj "list" vs.toArray 0)) s1.heap.objs.size vs) (bs.map enc)) false vs vs).toArray) hoL
  refine wpAny_pure ⟨_, rfl, hQ _ s1.heap.objs.size _ c (fun b u q => ?_) g1 o1 hz1 hc (PySem.W.sortVals_data false e er' hal)⟩
  · have q1 := k1 b u q
    show (sortedHeap (s1.heap.push (seqObj "list" vs.toArray 0)) s1.heap.objs.size vs _).get? b = some u
    rw [sortedHeap_old (Nat.ne_of_lt (Heap.lt_size q1)) (by rw [size_push']; exact Nat.lt_succ_of_lt (Heap.lt_size q1))]
    exact Heap.get?_push_of_some _ q1
end
section
variable {X : Cx} {pins : List (Addr × Obj)} {σ : L2.St} {H : Hp} {s : Shared}
theorem each_rel : ∀ {xs : List V} {ds : List PyData} {us : List Value}, xs.length = ds.length → Vals xs us → PySem.W.EachIs (fun u (b : V × PyData) => RelV b.1 u) us (xs.zip ds)
  | [], [], _, _, .nil => .nil
  | x :: xs, d :: ds, _, hl, .cons r t => .cons r (each_rel (by simpa using hl) t)
theorem each_reads {h : Heap} : ∀ {ds : List PyData} {us : List Value} {as : List Addr} {xs : List V}, xs.length = ds.length → ReadsAll h us ds as → PySem.W.EachIs (fun u (b : V × PyData) => ∃ as, Reads h u b.2 as) us (xs.zip ds)
  | [], _, _, [], _, r => by cases r; exact .nil
  | d :: ds, _, _, x :: xs, hl, r => by
    cases r with
    | cons h1 h2 => exact .cons ⟨_, h1⟩ (each_reads (by simpa using hl) h2)
theorem vals_each : ∀ {out : List Value} {bs : List (V × PyData)}, PySem.W.EachIs (fun u (b : V × PyData) => RelV b.1 u) out bs → Vals (bs.map Prod.fst) out
  | _, _, .nil => .nil
  | _, _, .cons r t => .cons r (vals_each t)
theorem dpAll_len {K : PySem.W.Frag} : ∀ {xs : List V} {ds : List PyData}, DpAll K H xs ds → xs.length = ds.length
  | _, _, .nil => rfl
  | _, _, .cons _ t => by simp [dpAll_len t]
def rSortedD (K : PySem.W.Frag) : List V → Hp → VK → Prop := fun vs H Q => ∃ (a : Addr) (xs : List V) (ds : List PyData), vs = [.ref a] ∧ (SqL K H a xs ∨ SqT K H a xs) ∧ DpAll K H xs ds ∧ PySem.W.AllAlike ds ∧ PySem.W.Sortable ds ∧ ds.length ≤ sizeLine ∧ (∀ d ∈ ds, d.depth ≤ 40) ∧
  ∀ p, H p = none → Q (.ref p) (upd H p (.lst (((xs.zip ds).mergeSort (PySem.W.dataLe false Prod.snd)).map Prod.fst)))
theorem behind_sorted {Q : VK} {s' : Shared} {p : Addr} {ys : List V} {out : List Value} {c : Nat} (I : Inv X pins σ H s) (k : ∀ b o, s.heap.get? b = some o → s'.heap.get? b = some o) (g : s'.gens = s.gens) (o : s'.os = s.os) (hp : s.heap.objs.size ≤ p) (hg : s'.heap.get? p = some (seqObj "list" out.toArray c))
    (hv : Vals ys out) (hl : ys.length ≤ sizeLine) (q : Q (.ref p) (upd H p (.lst ys))) : EP X pins σ Q (.ref p) s' := by
  have hn : H p = none := I.hok.fresh hp
  have J : Inv X pins σ (upd H p (.lst ys)) { s with heap := s'.heap, gens := s'.gens, drawn := s'.drawn, toks := s'.toks } :=
    I.call (ch := []) (Un.laid k hp hn) (I.hok.laid k hp ⟨hl, out, c, hv, hg⟩) (by rw [g]; exact I.bare) (fun _ z => nomatch z)
  have e : s' = { s with heap := s'.heap, gens := s'.gens, drawn := s'.drawn, toks := s'.toks } := by
    cases s'
    cases s
    cases o
    rfl
  rw [e]
  exact ⟨.ref p, _, J, rfl, q⟩
theorem cr_sortedD (hu : X.A.units + 64 < cLine) : CallR X (.builtin "sorted") (rSortedD X.K) := by
  intro pins s σ H vs us Q I r h
  obtain ⟨a, xs, ds, rfl, hs, hd, hal, hk, hL, hdep, q⟩ := h
  rw [Vals.ref1 r]
  have hlen := dpAll_len hd
  have hzl : (xs.zip ds).length = ds.length := by rw [List.length_zip]; omega
  have hmap : (xs.zip ds).map Prod.snd = ds := List.map_snd_zip (by omega)
  have fin : ∀ {its : List Value} {s1 : Shared}, Vals xs its → (∀ b o, s.heap.get? b = some o → s1.heap.get? b = some o) → s.heap.objs.size ≤ s1.heap.objs.size → s1.gens = s.gens → s1.os = s.os → ∃ bs : List (V × PyData), (∀ b o, s.heap.get? b = some o → s1.heap.get? b = some o) ∧ s.heap.objs.size ≤ s1.heap.objs.size ∧ s1.gens = s.gens ∧ s1.os = s.os ∧ PySem.W.EachIs (fun u (b : V × PyData) => RelV b.1 u) its bs ∧ PySem.W.EachIs (fun v b => ∃ as, Reads s1.heap v (Prod.snd b) as) its bs ∧
      PySem.W.AllAlike (bs.map Prod.snd) ∧ PySem.W.Sortable (bs.map Prod.snd) ∧ bs.length ≤ sizeLine ∧ (∀ b ∈ bs, X.A.units + 2 + (Prod.snd b).depth < cLine) ∧
      ∀ s' p (out : List Value) (c : Nat), (∀ b o, s.heap.get? b = some o → s'.heap.get? b = some o) → s'.gens = s.gens → s'.os = s.os → s.heap.objs.size ≤ p → s'.heap.get? p = some (seqObj "list" out.toArray c) → PySem.W.EachIs (fun u (b : V × PyData) => RelV b.1 u) out (bs.mergeSort (PySem.W.dataLe false Prod.snd)) → EP X pins σ Q (.ref p) s' := fun {its s1} rv k1 z1 g1 o1 => by
    obtain ⟨as, hr⟩ := Dp.readsAll I ds xs its hd rv
    refine ⟨xs.zip ds, k1, z1, g1, o1, each_rel hlen rv, each_reads hlen (PyProof.Rows.ReadsAll.keeps k1 hr), by rw [hmap]; exact hal, by rw [hmap]; exact hk, by rw [hzl]; exact hL, fun b hb => ?_, fun s' p out c k g o hp hg he => ?_⟩
    · have := hdep b.2 (by rw [← hmap]; exact List.mem_map.mpr ⟨b, hb, rfl⟩)
      omega
    · refine behind_sorted I k g o hp hg (vals_each he) (by rw [List.length_map, List.length_mergeSort, hzl]; exact hL) (q p (I.hok.fresh hp))
  have szc : ∀ vs : List Value, s.heap.objs.size ≤ ((s.heap.push (seqObj "list" #[] 0)).update s.heap.objs.size (Obj.mapSeq (· ++ vs.toArray))).objs.size := fun vs => by
    rw [Heap.size_update, size_push']; exact Nat.le_succ _
  have kc : ∀ (vs : List Value) b o, s.heap.get? b = some o → ((s.heap.push (seqObj "list" #[] 0)).update s.heap.objs.size (Obj.mapSeq (· ++ vs.toArray))).get? b = some o := fun vs b o e => by
    rw [Heap.get?_update_ne _ _ _ _ (Nat.ne_of_lt (Heap.lt_size e))]
    exact Heap.get?_push_of_some _ e
  refine sorted_coll (β := V × PyData) (enc := Prod.snd) (Rr := fun u b => RelV b.1 u) fun E' => ?_
  rcases hs with hs | hs
  · obtain ⟨its, rv, pl, hz⟩ := I.list hs
    exact collect_list pl.isList (fin (s1 := { s with heap := (s.heap.push (seqObj "list" #[] 0)).update s.heap.objs.size (Obj.mapSeq (· ++ its.toArray)) }) rv (kc its) (szc its) rfl rfl) (by rw [← rv.length]; exact hz)
  · obtain ⟨its, rv, pl, hz⟩ := I.tuple hs
    exact collect_tuple (show s.heap.IsTuple a its.toArray from pl) (by rw [← rv.length]; exact hz) (fin (s1 := { s with heap := (s.heap.push (seqObj "list" #[] 0)).update s.heap.objs.size (Obj.mapSeq (· ++ its.toArray)) }) rv (kc its) (szc its) rfl rfl)
end
theorem isAll_of_mem {B : Hp} : ∀ {ps : List (V × PyData)}, (∀ p ∈ ps, Is B p.1 p.2) → IsAll B (ps.map Prod.fst) (ps.map Prod.snd)
  | [], _ => .nil
  | p :: ps, h => .cons (h p List.mem_cons_self) (isAll_of_mem fun q hq => h q (List.mem_cons_of_mem _ hq))
theorem isAll_zip {B : Hp} : ∀ {vs : List V} {ds : List PyData}, IsAll B vs ds → ∀ p ∈ vs.zip ds, Is B p.1 p.2
  | _, _, .nil, p, h => by simp at h
  | _, _, .cons r t, p, h => by
    rw [List.zip_cons_cons] at h
    rcases List.mem_cons.mp h with e | e
    · rw [e]; exact r
    · exact isAll_zip t p e
/-- the sorted list -/
def sortD (ds : List PyData) : List PyData := ds.mergeSort (PySem.W.dataLe false id)
theorem sort_snd {vs : List V} {ds : List PyData} (h : vs.length = ds.length) : ((vs.zip ds).mergeSort (PySem.W.dataLe false Prod.snd)).map Prod.snd = sortD ds := by
  have e : (vs.zip ds).map Prod.snd = ds := List.map_snd_zip (by omega)
  unfold sortD
  conv => rhs; rw [← e]
  exact List.map_mergeSort (fun a _ b _ => rfl)
theorem ew_sorted {Γ : List Sv} {ta : TE} {K : PySem.W.Frag} {R : List Sv → Sv → Prop} (h : Es ta Γ fun Γ1 _ ds => PySem.W.AllAlike ds ∧ PySem.W.Sortable ds ∧ ds.length ≤ sizeLine ∧ (∀ d ∈ ds, d.depth ≤ 40) ∧ R Γ1 (.o (Ol (sortD ds)))) : Ew (tCB (rSortedD K) (tCons ta tNil)) Γ R := fun B0 H0 B σ H S Q k =>
  h B0 H0 B σ H S _ fun Γ1 b ds a vs B1 H1 ⟨hal, hk, hL, hdep, h1⟩ S1 e1 g i1 => by
    have hq : SqL K H1 a vs ∨ SqT K H1 a vs := by
      cases b with
      | true => exact .inl (SqL.of g)
      | false => exact .inr (SqT.of g)
    refine ⟨a, vs, ds, rfl, hq, IsAll.dp K ds vs (i1.up S1.bh), hal, hk, hL, hdep, fun p hp => ?_⟩
    have hi : IsAll B1 (((vs.zip ds).mergeSort (PySem.W.dataLe false Prod.snd)).map Prod.fst) (sortD ds) := by
      rw [← sort_snd i1.len]
      exact isAll_of_mem fun q hq => isAll_zip i1 q (List.mem_mergeSort.mp hq)
    have m := S1.made hp hi
    exact k Γ1 _ _ B1 _ h1 m.1 e1 m.2
end G

/-! ## part 7 -/
set_option Elab.async false
set_option linter.all false
set_option maxRecDepth 100000
set_option maxHeartbeats 4000000
/-! F7: sorted(set(..)) of texts, of whole numbers. -/
namespace G
open PySem PySem.Spec PyProof.Rows L2

section
variable {P : Program} {w : World} {κ : Type} [DecidableEq κ]
/-- two elements that no key is -/
def Apart (knd : PySem.KeyKind P w κ) (e f : Int × Value) : Prop := ∀ k, knd.is k e.2 = true → knd.is k f.2 = true → False
theorem Apart.symm {knd : PySem.KeyKind P w κ} {e f : Int × Value} (h : Apart knd e f) : Apart knd f e := fun k a b => h k b a
/-- the set at a, of the keys of which M holds; its table can be walked -/
def SetG (knd : PySem.KeyKind P w κ) (h : Heap) (a : Addr) (M : κ → Prop) (n : Nat) : Prop :=
  ∃ o es ep t, h.get? a = some o ∧ o.ExactSet ∧ o.data = .set es ep t ∧ ElemsOf knd es.toList ∧ es.toList.Pairwise (Apart knd) ∧ (∀ k, M k ↔ ∃ e ∈ es.toList, knd.is k e.2 = true) ∧
    es.size < scanBound ∧ t.fits es.size = true ∧ es.size = n ∧ Ris t.place.toList ∧ (w.params.followText "set-order" = true ∨ t.led = true)
variable {knd : PySem.KeyKind P w κ} {h h' : Heap} {a : Addr} {M : κ → Prop} {n : Nat}
theorem SetG.at (R : SetG knd h a M n) (k : ∀ o, h.get? a = some o → h'.get? a = some o) : SetG knd h' a M n := by
  obtain ⟨o, es, ep, t, ho, r⟩ := R
  exact ⟨o, es, ep, t, k o ho, r⟩
theorem SetG.congr {M' : κ → Prop} (R : SetG knd h a M n) (e : ∀ k, M' k ↔ M k) : SetG knd h a M' n := by
  obtain ⟨o, es, ep, t, h1, h2, h3, h4, h5, h6, r⟩ := R
  exact ⟨o, es, ep, t, h1, h2, h3, h4, h5, fun k => (e k).trans (h6 k), r⟩
theorem setG_fresh (h : Heap) : SetG knd (h.push { cls := .type "set", dict := none, data := .set #[] 0 (.fresh 0 0 (!w.params.followText "set-order")) }) h.objs.size (fun _ => False) 0 := by
  refine ⟨_, #[], 0, _, Heap.get?_push_size _ rfl, ⟨rfl, rfl, rfl⟩, rfl, fun e he => by simp at he, .nil, fun k => by simp, by decide, by rfl, rfl, .nil, ?_⟩
  cases hq : w.params.followText "set-order" with
  | true => exact .inl rfl
  | false => exact .inr rfl
variable {A : Around} {E : Value → Shared → Prop} {s : Shared}
/-- the table is stored, laid anew where it is too full -/
theorem setG_tail {gv : Bool → Sem Unit} (hg : ∀ (b : Bool) (s₁ : Shared) (Q' : Unit → Shared → Prop), Q' () s₁ → wpAny (model P w) A (gv b) Q' E s₁)
    {o : Obj} {es es1 : Array (Int × Value)} {ep : Nat} {t t2 : SetTable} (ho : s.heap.get? a = some o) (hex : o.ExactSet) (hd : o.data = .set es ep t)
    (g1 : ElemsOf knd es1.toList) (p1 : es1.toList.Pairwise (Apart knd)) (m1 : ∀ k, M k ↔ ∃ e ∈ es1.toList, knd.is k e.2 = true)
    (hb1 : es1.size < scanBound) (hf2 : t2.fits es1.size = true) (hr : Ris t2.place.toList) (hl : w.params.followText "set-order" = true ∨ t2.led = true) {wasDummy : Bool} {R : Option Bool → Shared → Prop}
    (hR : ∀ h', Heap.SameBut a s.heap h' → SetG knd h' a M es1.size → R (some true) { s with heap := h' }) :
    wpAny (model P w) A (do
      storeSet a es1 t2
      if (!wasDummy && t2.tooFull) = true then do
          gv (relayAll t2 es1 (SetTable.grown es1.size)).2.2
          storeSet a (relayAll t2 es1 (SetTable.grown es1.size)).1 (relayAll t2 es1 (SetTable.grown es1.size)).2.1
          pure (some true)
        else pure (some true)) R E s := by
  refine wpAny_bind (wpAny_storeSet_of ho hd ?_ (fits_of_scanBound hb1))
  have here := store_at (es' := es1) (t' := t2) ho hd
  have same := Heap.SameBut.update s.heap a (Obj.putSet es1 t2)
  by_cases full : (!wasDummy && t2.tooFull) = true
  · rw [if_pos full]
    have pm := relayAll_perm t2 es1 (SetTable.grown es1.size)
    have f3 := relayAll_fits t2 es1 (SetTable.grown es1.size)
    have r3 := relayAll_ris t2 es1 (SetTable.grown es1.size)
    have l3 := relayAll_led t2 es1 (SetTable.grown es1.size)
    generalize relayAll t2 es1 (SetTable.grown es1.size) = Z at pm f3 r3 l3 ⊢
    obtain ⟨es2, t3, gave⟩ := Z
    dsimp only at pm f3 r3 l3 ⊢
    have hsz : es2.size = es1.size := by rw [← Array.length_toList, pm.length_eq, Array.length_toList]
    have small : es2.size < scanBound := by rw [hsz]; exact hb1
    refine wpAny_bind (hg _ _ _ (wpAny_bind (wpAny_storeSet_of here rfl ?_ (fits_of_scanBound small))))
    have there := store_at (es' := es2) (t' := t3) here rfl
    refine wpAny_pure (hR _ (same.trans (Heap.SameBut.update _ a _)) ⟨_, es2, _, t3, there, hex, rfl, fun e he => g1 e (pm.mem_iff.mp he), ?_, fun k => (m1 k).trans ?_, small, f3, hsz, r3, hl.imp id fun z => by rw [l3]; exact z⟩)
    · exact (pm.pairwise_iff fun h => Apart.symm h).mpr p1
    · exact ⟨fun ⟨e, he, q⟩ => ⟨e, pm.mem_iff.mpr he, q⟩, fun ⟨e, he, q⟩ => ⟨e, pm.mem_iff.mp he, q⟩⟩
  · rw [if_neg full]
    exact wpAny_pure (hR _ same ⟨_, es1, _, t2, here, hex, rfl, g1, p1, m1, hb1, hf2, rfl, hr, hl⟩)
/-- a key is added -/
theorem setG_add {k : κ} {v : Value} {Q : Bool → Shared → Prop} (R : SetG knd s.heap a M n) (hkey : knd.is k v = true) (hsc : v.scannable = true) (room : n + 1 < scanBound)
    (hQ : ∀ b h' c, c ≤ n + 1 → Heap.SameBut a s.heap h' → SetG knd h' a (fun j => M j ∨ j = k) c → Q b { s with heap := h' }) : wpAny (model P w) A (setAddHashed a v (knd.hash k)) Q E s := by
  obtain ⟨o, es, ep, t, ho, hex, hd, hel, hap, hm, hb, hf, hn, hr, hl⟩ := R
  unfold setAddHashed setAddHashedIn
  refine wpAny_holding (wpAny_bind (wpAny_setState_of ho hd hf ?_))
  dsimp only
  rw [byScan_of hsc hb hel, if_pos rfl]
  unfold setAddByScan
  refine wpAny_bind (wpAny_bind (wpAny_rule (wpAny_bind (wpAny_setScan_of hkey ho hd hf hel ?_))))
  cases hfi : List.findIdx? (fun e => knd.is k e.2) es.toList with
  | some j =>
    dsimp only
    obtain ⟨hj, pj, _⟩ := List.findIdx?_eq_some_iff_getElem.mp hfi
    have hMk : M k := (hm k).mpr ⟨_, List.getElem_mem hj, pj⟩
    refine wpAny_pure (wpAny_pure (hQ _ s.heap n (Nat.le_succ n) (Heap.SameBut.refl a s.heap) ⟨o, es, ep, t, ho, hex, hd, hel, hap, fun i => ?_, hb, hf, hn, hr, hl⟩))
    rw [← hm i]
    exact ⟨fun z => z.elim id (fun e => e ▸ hMk), .inl⟩
  | none =>
    dsimp only
    have hnk : ∀ e ∈ es.toList, knd.is k e.2 = true → False := fun e he q => by
      have c := List.findIdx?_eq_none_iff.mp hfi e he
      rw [q] at c
      cases c
    have pm := layNew_perm t es (knd.hash k) v
    have f1 := layNew_fits t es (knd.hash k) v
    have r1 := layNew_ris t es (knd.hash k) v hr
    have l1 := layNew_led t es (knd.hash k) v
    generalize layNew t es (knd.hash k) v = Z at pm f1 r1 l1 ⊢
    obtain ⟨es1, t1, wasDummy, gave⟩ := Z
    dsimp only at pm f1 r1 l1 ⊢
    rw [Array.toList_push] at pm
    have pc : es1.toList.Perm ((knd.hash k, v) :: es.toList) := pm.trans (List.perm_append_singleton _ _)
    have g1 : ElemsOf knd es1.toList := fun e he => by
      rcases List.mem_cons.mp (pc.mem_iff.mp he) with z | z
      · rw [z]; exact ⟨⟨k, hkey, rfl⟩, hsc⟩
      · exact hel e z
    have p1 : es1.toList.Pairwise (Apart knd) := (pc.pairwise_iff fun h => Apart.symm h).mpr (List.pairwise_cons.mpr ⟨fun f hf' j q1 q2 => by
      have e : j = k := knd.inj _ _ _ q1 hkey
      subst e
      exact hnk f hf' q2, hap⟩)
    have m1 : ∀ j, (M j ∨ j = k) ↔ ∃ e ∈ es1.toList, knd.is j e.2 = true := fun j => by
      constructor
      · rintro (z | z)
        · obtain ⟨e, he, q⟩ := (hm j).mp z
          exact ⟨e, pc.mem_iff.mpr (List.mem_cons_of_mem _ he), q⟩
        · rw [z]; exact ⟨_, pc.mem_iff.mpr List.mem_cons_self, hkey⟩
      · rintro ⟨e, he, q⟩
        rcases List.mem_cons.mp (pc.mem_iff.mp he) with z | z
        · rw [z] at q; exact .inr (knd.inj _ _ _ q hkey)
        · exact .inl ((hm j).mpr ⟨e, z, q⟩)
    have hsz : es1.size = n + 1 := by rw [← Array.length_toList, pc.length_eq, List.length_cons, Array.length_toList, hn]
    have hb1 : es1.size < scanBound := by rw [hsz]; exact room
    have hled : w.params.followText "set-order" = true ∨ t1.led = true := hl.imp id fun z => by rw [l1]; exact z
    have gw : ∀ (b : Bool) (s₁ : Shared) (Q' : Unit → Shared → Prop), Q' () s₁ → wpAny (model P w) A (match b with | true => rule "set.scan.the-table-gave-way" | false => pure ()) Q' E s₁ := fun b s₁ Q' q => by
      cases b with
      | true => exact wpAny_rule q
      | false => exact wpAny_pure q
    have fin : ∀ h', Heap.SameBut a s.heap h' → SetG knd h' a (fun j => M j ∨ j = k) es1.size → Q true { s with heap := h' } := fun h' sb r => hQ true h' _ (by omega) sb r
    refine wpAny_bind (gw _ _ _ ?_)
    split
    · refine wpAny_bind ?_
      rw [hashByValue_scannable 8 hsc]
      refine wpAny_pure (setG_tail gw ho hex hd g1 p1 m1 hb1 ?_ ?_ ?_ fun h' sb r => wpAny_pure (fin h' sb r))
      · first
          | exact f1
          | (split <;> first | exact f1 | exact SetTable.fits_plain_off f1)
      · first
          | exact r1
          | (split <;> exact r1)
      · first
          | exact hled
          | (split <;> exact hled)
    · exact wpAny_bind (wpAny_pure (setG_tail gw ho hex hd g1 p1 m1 hb1 f1 r1 hled fun h' sb r => wpAny_pure (fin h' sb r)))
/-- the loop of an update -/
theorem setG_loop {I : Addr} {fp wr : List Addr} {G' : Array GenState → Array GenState → Prop} {m : Nat} {Pv : Nat → Value → Prop} {St : Nat → Shared → Prop} {R : Result → Shared → Prop}
    (W : WalksS P w A.in1 I fp wr G' m Pv St) (S : Addr) (hSf : S ∉ fp) (ks : List κ) (hn : m = ks.length) (hb : ks.length + 1 < scanBound) (hval : ∀ i v, Pv i v → ∃ k, ks[i]? = some k ∧ knd.is k v = true ∧ v.scannable = true) :
    ∀ (j i : Nat) (s : Shared), m - i = j → i ≤ m → St i s → (∃ c, c ≤ i ∧ SetG knd s.heap S (fun k => k ∈ ks.take i) c) →
      (∀ s' c, Moved (S :: wr) G' s s' → c ≤ m → SetG knd s'.heap S (fun k => k ∈ ks) c → R (.ok (.ret .none)) s') →
      codeAny (model P w) A (.builtin "set.update.loop" ⟨[.ref S, .ref I], []⟩) R s := by
  have hSw : S ∉ wr := fun z => hSf (W.sub _ z)
  have wider : ∀ b ∈ wr, b ∈ S :: wr := fun b hb => List.mem_cons_of_mem _ hb
  intro j
  induction j with
  | zero =>
    intro i s hj hi hst ⟨c, hc, hS⟩ hR
    obtain rfl : i = m := by omega
    refine codeAny_builtin F.entry_set_update_loop ?_
    rw [Around.under_plainId F.plain_set_update_loop _]
    show wpAny _ A.in1 (pyNext (.ref I) >>= _) _ _ s
    refine wpAny_bind (W.done s _ _ hst fun s' mv => ?_)
    rw [List.take_of_length_le (show ks.length ≤ i by omega)] at hS
    exact wpAny_pure (hR s' c (mv.mono wider) hc (hS.at fun o e => mv.heap S o hSw e))
  | succ j ih =>
    intro i s hj hi hst ⟨c, hc, hS⟩ hR
    have hlt : i < m := by omega
    refine codeAny_builtin F.entry_set_update_loop ?_
    rw [Around.under_plainId F.plain_set_update_loop _]
    show wpAny _ A.in1 (pyNext (.ref I) >>= _) _ _ s
    refine wpAny_bind (W.item i s _ _ hlt hst fun v s' hP hst' mv => ?_)
    obtain ⟨k, hk, hkey, hsc⟩ := hval i v hP
    have hS' : SetG knd s'.heap S (fun k => k ∈ ks.take i) c := hS.at fun o e => mv.heap S o hSw e
    show wpAny _ A.in1 (holding [v] (setAdd S v) >>= _) _ _ s'
    refine wpAny_bind (wpAny_holding ?_)
    unfold setAdd
    refine wpAny_holding (wpAny_bind (knd.pyHash hkey ?_))
    refine setG_add (s := { s' with toks := s'.toks + 1 }) hS' hkey hsc (by omega) fun b h' c' hc' sb hS2 => ?_
    have hS3 : SetG knd h' S (fun j => j ∈ ks.take (i + 1)) c' := hS2.congr fun j => by
      rw [List.take_add_one, hk]
      simp [List.mem_append]
    refine wpAny_pure ⟨plainId_quiet F.plain_set_update_loop _, ih (i + 1) _ (by omega) hlt (W.frame _ s' _ _ hst' (Nat.le_succ _) fun b hb o e => ?_) ⟨_, by omega, hS3⟩ fun s'' c2 mv2 hc2 hS4 => ?_⟩
    · rw [sb.2 b (fun z : b = S => hSf (by rw [← z]; exact hb))]; exact e
    · refine hR s'' c2 (Moved.trans W.gtrans ((mv.mono wider).then_heap (Nat.le_succ _) fun b o hb e => ?_) mv2) hc2 hS4
      rw [sb.2 b (fun z : b = S => hb (by rw [z]; exact List.mem_cons_self))]; exact e
abbrev freshSet (w : World) : Obj := { cls := .type "set", dict := none, data := .set #[] 0 (.fresh 0 0 (!w.params.followText "set-order")) }
set_option maxHeartbeats 6400000 in
/-- set(a list whose items are the keys ks) -/
theorem call_set_listG {l : Addr} {items : Array Value} (ks : List κ) {Q : Value → Shared → Prop} (hh : A.handled = none) (hl : s.heap.IsList l items) (hlen : items.size = ks.length) (hb : ks.length + 1 < scanBound)
    (hit : ∀ (i : Nat) v, items[i]? = some v → ∃ k, ks[i]? = some k ∧ knd.is k v = true ∧ v.scannable = true)
    (fin : ∀ (h' : Heap) (tk c : Nat), SetG knd h' s.heap.objs.size (fun j => j ∈ ks) c → c ≤ ks.length → (∀ b o, s.heap.get? b = some o → h'.get? b = some o) → Q (.ref s.heap.objs.size) { s with heap := h', toks := tk }) :
    wpAny (model P w) A (call (.type "set") [.ref l]) Q E s := by
  obtain ⟨c, tl, hmro⟩ := F.called_set.mro
  have hmade := F.called_set.made
  have hsub := F.called_set.sub
  refine wpAny_call (codeAny_of_tree ?_)
  show wpAny _ _ (callAny (.type "set") _) _ _ _
  refine wpAny_pure ⟨Code.quiet_builtin _ (by decide +kernel), codeAny_builtin F.entry_type_call ?_⟩
  rw [Around.under_plain (weight_type_call_type "set" [.ref l] []) rfl]
  have n1 := F.called_set.notType
  have n2 := F.called_set.canCreate
  have n3 := F.typeCall_set_1 (.ref l)
  repeat (any_goals (first | assumption | wp_step))
  generalize hob : ({ cls := .type "set", dict := none, data := .set #[] 0 (.fresh 0 0 (!w.params.followText "set-order")) } : Obj) = ob
  refine codeAny_mono (code_set_led1 (.ref l) (E := E) (Q₁ := fun obj s₁ => obj = .ref s.heap.objs.size ∧ s₁ = { s with heap := s.heap.push ob }) (by rw [hob]; exact ⟨rfl, rfl⟩)) fun r s₁ hr => ?_
  cases r with
  | error e => exact hr
  | ok fl =>
    cases fl with
    | ret obj =>
      obtain ⟨rfl, rfl⟩ := hr
      have hS : (s.heap.push ob).get? s.heap.objs.size = some ob := Heap.get?_push_size _ (by rw [← hob]; rfl)
      have hT : Shared.TypeIs { s with heap := s.heap.push ob } (.ref s.heap.objs.size) "set" := ⟨_, hS, by rw [← hob]⟩
      have hli := F.called_set.init.lookup
      have hbi := F.called_set.init.bind (.ref s.heap.objs.size)
      repeat (any_goals (first | assumption | wp_step))
      refine codeAny_mono (codeAny_call_builtin (R := wants (fun r s₂ => r = .none ∧ ∃ h' tk c, s₂ = { s with heap := h', toks := tk } ∧ SetG knd h' s.heap.objs.size (fun j => j ∈ ks) c ∧ c ≤ ks.length ∧
          (∀ b o, s.heap.get? b = some o → h'.get? b = some o)) E) F.called_set.init.plain F.entry_set_init (check_set_init_1 hT ?_)) fun r₂ s₂ hr₂ => ?_
      · subst hob
        obtain ⟨ol, hol, hcl, nl, hdl⟩ := hl
        obtain ⟨ocls, odict, odata, oslots⟩ := ol
        simp only at hcl hdl
        subst hcl; subst hdl
        have hol' : (s.heap.push (freshSet w)).get? l = some { cls := .type "list", dict := odict, data := .seq items nl, slots := oslots } := Heap.get?_push_of_some _ hol
        have q1 := F.sub_list_set
        have q2 := F.sub_list_frozenset
        have q3 : (Value.type "list" == Value.type "dict") = false := by decide
        have hl1 : (s.heap.push (freshSet w)).IsList l items := ⟨_, hol', rfl, nl, rfl⟩
        have hz1 : (s.heap.push (freshSet w)).objs.size = s.heap.objs.size + 1 := Heap.size_push ..
        unfold Builtin.«set.__init__» noKeywords Builtin.Frozenset.updateFrom
        generalize hPI : pyIter = PI
        wp_walk
        subst hPI
        refine wpAny_pyIter_list hl1 ?_
        refine wpAny_bind (wpAny_runValue ?_)
        have hlS : l < s.heap.objs.size := Heap.lt_size hol
        have hh3 : A.in1.in1.in1.handled = none := by simp [hh]
        have hneI : l ≠ (s.heap.push (freshSet w)).objs.size := by rw [hz1]; exact Nat.ne_of_lt (Nat.lt_succ_of_lt hlS)
        have hSf : s.heap.objs.size ∉ [(s.heap.push (freshSet w)).objs.size, l] := by
          rw [hz1]; simp only [List.mem_cons, List.mem_singleton, List.not_mem_nil, or_false, not_or]
          exact ⟨Nat.ne_of_lt (Nat.lt_succ_self _), Nat.ne_of_gt hlS⟩
        refine setG_loop ((Walks.list hh3 _ l hneI items).toS) s.heap.objs.size hSf ks hlen hb hit (items.size - 0) 0 _ (by omega) (Nat.zero_le _) ⟨⟨_, Heap.get?_push_size _ rfl, rfl, rfl⟩, hl1.push _⟩ ?hS0 ?hR
        case hS0 =>
          have hf := setG_fresh (w := w) (knd := knd) s.heap
          exact ⟨0, Nat.le_refl 0, (hf.at fun o e => Heap.get?_push_of_some _ e).congr fun k => by simp⟩
        case hR =>
          intro s' c' mv hc' hS'
          obtain ⟨h', g2, d', tk', os'⟩ := s'
          obtain rfl : g2 = s.gens := mv.gens
          obtain rfl : d' = s.drawn := mv.drawn
          obtain rfl : os' = s.os := mv.os
          show wpAny _ _ _ _ _ _
          refine wpAny_pure ?_
          show wpAny _ _ (ret Value.none) _ _ _
          rw [hlen] at hc'
          refine wpAny_pure ⟨rfl, h', tk', c', rfl, hS', hc', fun b o e => ?_⟩
          have hb0 : b < s.heap.objs.size := Heap.lt_size e
          have hb2 : b ≠ (s.heap.push (freshSet w)).objs.size := by rw [hz1]; exact Nat.ne_of_lt (Nat.lt_succ_of_lt hb0)
          exact mv.heap b o (by simp only [List.mem_cons, List.mem_singleton, List.not_mem_nil, or_false, not_or]; exact ⟨Nat.ne_of_lt hb0, hb2⟩) (Heap.get?_push_of_some _ (Heap.get?_push_of_some _ e))
      · cases r₂ with
        | error e => exact hr₂
        | ok fl₂ =>
          cases fl₂ with
          | ret r =>
            obtain ⟨rfl, h', tk, c', rfl, hS', hc', hk'⟩ := hr₂
            repeat (any_goals (first | assumption | wp_step))
            exact fin _ _ _ hS' hc' hk'
          | _ => exact hr₂.elim
    | _ => exact hr.elim
end
end G

/-! ## part 8 -/
set_option Elab.async false
set_option linter.all false
set_option maxRecDepth 100000
set_option maxHeartbeats 2000000
/-! F8: sorted(set(..)) as rules. -/
namespace G
open PySem PySem.Spec PyProof.Rows L2

def strOf : Value → Str
  | .str x _ => x
  | _ => Str.empty
def SetS (P : Program) (w : World) (a : Addr) (xs : List Str) (n : Nat) : HO := .ext fun h => SetG (PySem.strKind P w) h a (fun k => k ∈ xs) n
def rSetL (P : Program) (w : World) (K : PySem.W.Frag) : List V → Hp → VK → Prop := fun vs H Q => ∃ (a : Addr) (xs : List Str), vs = [.ref a] ∧ SqL K H a (xs.map V.str) ∧ xs.length + 1 < scanBound ∧ ∀ p c, H p = none → c ≤ xs.length → Q (.ref p) (upd H p (SetS P w p xs c))
def rSortSetS (P : Program) (w : World) : List V → Hp → VK → Prop := fun vs H Q => ∃ (a : Addr) (xs : List Str) (n : Nat), vs = [.ref a] ∧ H a = some (SetS P w a xs n) ∧ ∀ (ys : List Str) (p : Addr), ys.Nodup → (∀ y, y ∈ ys ↔ y ∈ xs) → H p = none → Q (.ref p) (upd H p (.lst (ys.map V.str)))
def rSetTI (w : World) (K : PySem.W.Frag) : List V → Hp → VK → Prop := fun vs H Q => ∃ (a : Addr) (ns : List Int), vs = [.ref a] ∧ SqT K H a (ns.map V.int) ∧ ns.length + 1 < scanBound ∧ ∀ p c, H p = none → c ≤ ns.length → Q (.ref p) (upd H p (SetO w p (fun j => decide (j ∈ ns)) c))
section
variable {X : Cx}
theorem strs_shape : ∀ {xs : List Str} {us : List Value}, Vals (xs.map V.str) us → ∀ (i : Nat) v, us[i]? = some v → ∃ k, xs[i]? = some k ∧ ∃ t, v = .str k t
  | [], _, .nil, i, v, h => by simp at h
  | x :: xs, _, .cons ⟨t, e⟩ r, 0, v, h => by simp at h; exact ⟨x, rfl, t, by rw [← h, e]⟩
  | x :: xs, _, .cons _ r, i + 1, v, h => by
    rw [List.getElem?_cons_succ] at h
    obtain ⟨k, h1, h2⟩ := strs_shape r i v h
    exact ⟨k, by rw [List.getElem?_cons_succ]; exact h1, h2⟩
theorem setS_new {P : Program} {w : World} {H : Hp} {h : Heap} {a : Addr} {xs : List Str} {n : Nat} (R : SetG (PySem.strKind P w) h a (fun k => k ∈ xs) n) : ObjOk P w H h a (SetS P w a xs n) := by
  refine ⟨R, ?_, fun h1 h2 p k => p.at k⟩
  obtain ⟨o, _, _, _, ho, _⟩ := R
  exact ⟨o, ho⟩
theorem cr_setL (hc : X.calm = true) : CallR X (.type "set") (rSetL X.prog X.w X.K) := by
  intro pins s σ H vs us Q I r h
  obtain ⟨a, xs, rfl, hs, hb, q⟩ := h
  rw [Vals.ref1 r]
  obtain ⟨its, rv, pl, hz⟩ := I.list hs
  have hl := rv.length
  rw [List.length_map] at hl
  refine call_set_listG (knd := PySem.strKind X.prog X.w) (items := its.toArray) xs (I.ok.hd hc) pl.isList (by rw [List.size_toArray]; exact hl.symm) hb (fun i v hv => ?_) fun h' tk c hS hc' k => ?_
  · obtain ⟨x, h1, t, rfl⟩ := strs_shape rv i v (by simpa using hv)
    exact ⟨x, h1, by simp [PySem.strKind, Value.isStrOf], rfl⟩
  · have hn := I.hok.fresh (Nat.le_refl s.heap.objs.size)
    exact ⟨.ref s.heap.objs.size, _, I.laid (t' := tk) k (Nat.le_refl _) (setS_new hS), rfl, q _ c hn hc'⟩
theorem cr_setTI (hc : X.calm = true) : CallR X (.type "set") (rSetTI X.w X.K) := by
  intro pins s σ H vs us Q I r h
  obtain ⟨a, ns, rfl, hs, hb, q⟩ := h
  rw [Vals.ref1 r]
  obtain ⟨its, rv, pl, hz⟩ := I.tuple hs
  refine call_set_tupI (items := its.toArray) ns (I.ok.hd hc) (show s.heap.IsTuple a its.toArray from pl) (by rw [List.toList_toArray]; exact ints_of_vals rv) hb fun h' tk c hS hc' k => ?_
  have hn := I.hok.fresh (Nat.le_refl s.heap.objs.size)
  exact ⟨.ref s.heap.objs.size, _, I.laid (t' := tk) k (Nat.le_refl _) (setO_new hS), rfl, q _ c hn hc'⟩
theorem each_strOf {vs : List Value} (h : ∀ v ∈ vs, ∃ x t, v = .str x t) : PySem.W.EachIs (fun u (x : Str) => RelV (.str x) u) vs (vs.map strOf) := by
  induction vs with
  | nil => exact .nil
  | cons v vs ih =>
    obtain ⟨x, t, rfl⟩ := h _ List.mem_cons_self
    exact .cons ⟨t, rfl⟩ (ih fun u hu => h u (List.mem_cons_of_mem _ hu))
theorem each_strR {hp : Heap} {vs : List Value} (h : ∀ v ∈ vs, ∃ x t, v = .str x t) : PySem.W.EachIs (fun u (x : Str) => ∃ as, Reads hp u (PyData.str x) as) vs (vs.map strOf) := by
  induction vs with
  | nil => exact .nil
  | cons v vs ih =>
    obtain ⟨x, t, rfl⟩ := h _ List.mem_cons_self
    exact .cons ⟨_, Reads.str x t⟩ (ih fun u hu => h u (List.mem_cons_of_mem _ hu))
theorem vals_strs : ∀ {out : List Value} {ys : List Str}, PySem.W.EachIs (fun u (x : Str) => RelV (.str x) u) out ys → Vals (ys.map V.str) out
  | _, _, .nil => .nil
  | _, _, .cons r t => .cons r (vals_strs t)
theorem cr_sortSetS (hc : X.calm = true) (hu : X.A.units + 64 < cLine) : CallR X (.builtin "sorted") (rSortSetS X.prog X.w) := by
  intro pins s σ H vs us Q I r h
  obtain ⟨a, xs, n, rfl, ha, q⟩ := h
  rw [Vals.ref1 r]
  obtain ⟨⟨o, es, ep, t, ho, hex, hd, hel, hap, hm, hb, hf, hn, hr, hl⟩, _⟩ := (show ObjOk X.prog X.w H s.heap a (SetS X.prog X.w a xs n) from I.hok a _ ha)
  have shape : ∀ v ∈ es.toList.map (·.2), ∃ x t, v = Value.str x t := fun v hv => by
    obtain ⟨e, he, rfl⟩ := List.mem_map.mp hv
    obtain ⟨⟨k, hk, _⟩, _⟩ := hel e he
    obtain ⟨t, q⟩ := Value.isStrOf_shape (show Value.isStrOf k e.2 = true from hk)
    exact ⟨k, t, q⟩
  have isx : ∀ (e : Int × Value) (k : Str), e ∈ es.toList → ((PySem.strKind X.prog X.w).is k e.2 = true ↔ strOf e.2 = k) := fun e k he => by
    obtain ⟨x, t, q⟩ := shape e.2 (List.mem_map.mpr ⟨e, he, rfl⟩)
    rw [q]
    show Value.isStrOf k (.str x t) = true ↔ x = k
    simp [Value.isStrOf]
  have nd : (es.toList.map fun e => strOf e.2).Nodup := by
    unfold List.Nodup
    rw [List.pairwise_map]
    refine hap.imp_of_mem fun {e f} he hf' hE z => ?_
    exact hE (strOf e.2) ((isx e _ he).mpr rfl) ((isx f _ hf').mpr z.symm)
  refine sorted_coll (β := Str) (enc := PyData.str) (Rr := fun u x => RelV (.str x) u) fun E' => ?_
  refine collect_set (A := X.A.in1) (I.ok.hd hc) ⟨o, ho, hex.1, hd⟩ hf hb hr hl fun s1 vs k1 hz g1 o1 pm => ?_
  have shape' : ∀ v ∈ vs, ∃ x t, v = Value.str x t := fun v hv => shape v (pm.mem_iff.mp hv)
  have hlen : vs.length = es.size := by rw [pm.length_eq, List.length_map, Array.length_toList]
  have hpm : (vs.map strOf).Perm (es.toList.map fun e => strOf e.2) := by
    have := pm.map strOf
    rw [List.map_map] at this
    exact this
  have hsb : es.size ≤ sizeLine := fits_of_scanBound hb
  refine ⟨vs.map strOf, k1, hz, g1, o1, each_strOf shape', each_strR shape', PySem.W.AllAlike.of fun _ _ => by simp [PySem.W.alike], PySem.W.Sortable.others fun b => ⟨by simp, fun ys => by simp⟩, by rw [List.length_map, hlen]; exact hsb, fun b _ => by
    show X.A.units + 2 + 0 < cLine
    omega, fun s' p out c k g o hp hg he => ?_⟩
  have hq := List.mergeSort_perm (vs.map strOf) (PySem.W.dataLe false PyData.str)
  refine behind_sorted I k g o hp hg (vals_strs he) (by rw [List.length_map, List.length_mergeSort, List.length_map, hlen]; exact hsb) (q _ p ((hq.trans hpm).nodup_iff.mpr nd) (fun y => ?_) (I.hok.fresh hp))
  rw [(hq.trans hpm).mem_iff, List.mem_map]
  exact ⟨fun ⟨e, he, z⟩ => (hm y).mpr ⟨e, he, (isx e y he).mpr z⟩, fun z => let ⟨e, he, z⟩ := (hm y).mp z; ⟨e, he, (isx e y he).mp z⟩⟩
end
section
variable {Γ : List Sv} {te : TE} {K : PySem.W.Frag} {P : Program} {w : World} {R : List Sv → Sv → Prop}
theorem ew_sortsetS (h : Ed te Γ fun Γ1 x => ∃ xs : List Str, x = .list (xs.map PyData.str) ∧ xs.length ≤ 1000 ∧ ∀ ys : List Str, ys.Nodup → (∀ y, y ∈ ys ↔ y ∈ xs) → R Γ1 (.o (Ol (ys.map PyData.str)))) :
    Ew (tCB (rSortSetS P w) (tCons (tCB (rSetL P w K) (tCons te tNil)) tNil)) Γ R := fun B0 H0 B σ H S Q k =>
  h B0 H0 B σ H S _ fun Γ1 x v B1 H1 ⟨xs, ex, hl, h1⟩ S1 e1 i1 => by
    subst ex
    obtain ⟨a, vs, rfl, g1, g2⟩ := is_lst i1
    have := g2.strs_inv
    subst this
    refine ⟨a, xs, rfl, SqL.of (S1.bh _ _ g1), by show xs.length + 1 < 4096; omega, fun p c hp hc => ⟨p, xs, c, rfl, upd_same, fun ys l hn hm hl' => ?_⟩⟩
    have S2 := S1.grow (Grow.new' (o := SetS P w p xs c) S1.bh hp)
    have m := S2.made hl' (IsAll.strs (B := B1) ys)
    exact k Γ1 _ _ B1 _ (h1 ys hn hm) m.1 e1 m.2
theorem ew_sortsetI (h : Ed te Γ fun Γ1 x => ∃ xs : List Int, x = .tuple (xs.map PyData.int) ∧ xs.length ≤ 60 ∧ ∀ ys : List Int, ys.Pairwise (· < ·) → (∀ y, y ∈ ys ↔ y ∈ xs) → R Γ1 (.o (Ol (ys.map PyData.int)))) :
    Ew (tCB (rSortedSet w) (tCons (tCB (rSetTI w K) (tCons te tNil)) tNil)) Γ R := fun B0 H0 B σ H S Q k =>
  h B0 H0 B σ H S _ fun Γ1 x v B1 H1 ⟨xs, ex, hl, h1⟩ S1 e1 i1 => by
    subst ex
    obtain ⟨a, vs, rfl, g1, g2⟩ := is_tup i1
    have := g2.ints_inv
    subst this
    refine ⟨a, xs, rfl, SqT.of (S1.bh _ _ g1), by show xs.length + 1 < 4096; omega, fun p c hp hc => ⟨p, _, c, rfl, upd_same, by omega, fun ys l hn hm hlen hl' => ?_⟩⟩
    have S2 := S1.grow (Grow.new' (o := SetO w p (fun j => decide (j ∈ xs)) c) S1.bh hp)
    have m := S2.made hl' (IsAll.ints (B := B1) ys)
    exact k Γ1 _ _ B1 _ (h1 ys hn fun y => by rw [hm y, decide_eq_true_eq]) m.1 e1 m.2
end
end G

/-! ## part 9 -/
set_option Elab.async false
set_option linter.all false
set_option maxRecDepth 100000
set_option maxHeartbeats 2000000
/-! F9: dicts whose keys are stands: pairs of tuples of whole numbers. -/
namespace G
open PySem PySem.Spec PyProof.Rows L2

abbrev Stand := List Int × List Int
def skey (s : Stand) : NestedKey := .tup [.tup (s.1.map .num), .tup (s.2.map .num)]
def sD (s : Stand) : PyData := .tuple [.tuple (s.1.map .int), .tuple (s.2.map .int)]
theorem num_inj : ∀ {xs ys : List Int}, xs.map NestedKey.num = ys.map NestedKey.num → xs = ys
  | [], [], _ => rfl
  | [], _ :: _, h => by simp at h
  | _ :: _, [], h => by simp at h
  | x :: xs, y :: ys, h => by
    simp only [List.map_cons, List.cons.injEq, NestedKey.num.injEq] at h
    rw [h.1, num_inj h.2]
theorem skey_inj {s t : Stand} (h : skey s = skey t) : s = t := by
  unfold skey at h
  simp only [NestedKey.tup.injEq, List.cons.injEq, and_true] at h
  exact Prod.ext (num_inj h.1) (num_inj h.2)
theorem depth_nums : ∀ xs : List Int, NestedKey.depthAll (xs.map NestedKey.num) = 0
  | [] => by simp [NestedKey.depthAll]
  | x :: xs => by simp [NestedKey.depthAll, NestedKey.depth, depth_nums xs]
theorem skey_depth (s : Stand) : (skey s).depth ≤ 8 := by
  simp [skey, NestedKey.depth, NestedKey.depthAll, depth_nums]
theorem nested_ints {h : Heap} : ∀ {xs : List Int} {us : List Value}, Vals (xs.map V.int) us → NestedAll h (xs.map NestedKey.num) us
  | [], _, .nil => .nil
  | x :: xs, _, .cons ⟨t, e⟩ r => by
    rw [e]
    exact .cons (.int x t) (nested_ints r)
/-- a stand's tuple, by the heap -/
theorem is_key {P : Program} {w : World} {H : Hp} {h : Heap} (ok : HOk P w H h) {a : Addr} {s : Stand} (i : Is H (.ref a) (sD s)) : (nestedKind P w).is h (skey s) a := by
  obtain ⟨a', vs, e, g1, g2⟩ := is_tup i
  cases e
  have part : ∀ {v : V} {xs : List Int}, Is H v (.tuple (xs.map PyData.int)) → ∃ b, v = .ref b ∧ NestedIs h (.tup (xs.map NestedKey.num)) (.ref b) := fun {v xs} iv => by
    obtain ⟨b, ws, rfl, k1, k2⟩ := is_tup iv
    have := k2.ints_inv
    subst this
    obtain ⟨_, its, rv, o, ho, hc, n, hd⟩ := (show ObjOk P w H h b (.tup (xs.map V.int)) from ok b _ k1)
    exact ⟨b, rfl, .tup ho hc hd (by rw [List.toList_toArray]; exact nested_ints rv)⟩
  cases g2 with
  | cons i1 g2 =>
    cases g2 with
    | cons i2 g2 =>
      cases g2
      obtain ⟨b1, rfl, n1⟩ := part i1
      obtain ⟨b2, rfl, n2⟩ := part i2
      obtain ⟨_, its, rv, o, ho, hc, n, hd⟩ := (show ObjOk P w H h a (.tup [.ref b1, .ref b2]) from ok a _ g1)
      refine ⟨.tup ho hc hd ?_, skey_depth s⟩
      rw [List.toList_toArray]
      cases rv with
      | cons r1 rv =>
        cases rv with
        | cons r2 rv =>
          cases rv
          cases r1
          cases r2
          exact .cons n1 (.cons n2 .nil)

abbrev NE := NestedKey × Addr × Value
/-- the dict at d, its entries -/
def NdO (P : Program) (w : World) (d : Addr) (xs : List NE) : HO := .ext fun h => (d == sysModules) = false ∧ ∃ o es ep, h.get? d = some o ∧ o.ExactDict ∧ o.data = .dict es ep ∧ es.toList = xs.map (entryOfKey (nestedKind P w)) ∧ (xs.map (·.1)).Nodup
def NdR (B : Hp) : List NE → List (Stand × PyData) → Prop := Paired fun x kv => x.1 = skey kv.1 ∧ Is B (.ref x.2.1) (sD kv.1) ∧ ∃ v, RelV v x.2.2 ∧ Is B v kv.2
theorem NdR.up {B B' : Hp} {xs : List NE} {kvs : List (Stand × PyData)} (r : NdR B xs kvs) (e : Ex B B') : NdR B' xs kvs := Paired.mapP r fun x kv ⟨h1, h2, v, h3, h4⟩ => ⟨h1, h2.up e, v, h3, h4.up e⟩
theorem NdR.keys {B : Hp} {xs : List NE} {kvs : List (Stand × PyData)} (r : NdR B xs kvs) : xs.map (·.1) = kvs.map fun kv => skey kv.1 := by
  unfold NdR at r
  induction r with
  | nil => rfl
  | cons h t ih => simp only [List.map_cons]; rw [ih, h.1]
theorem NdR.len {B : Hp} {xs : List NE} {kvs : List (Stand × PyData)} (r : NdR B xs kvs) : xs.length = kvs.length := Paired.length r
theorem NdR.mem {B : Hp} {xs : List NE} {kvs : List (Stand × PyData)} (r : NdR B xs kvs) : ∀ x ∈ xs, ∃ kv ∈ kvs, x.1 = skey kv.1 ∧ Is B (.ref x.2.1) (sD kv.1) ∧ ∃ v, RelV v x.2.2 ∧ Is B v kv.2 := by
  unfold NdR at r
  induction r with
  | nil => intro x h; simp at h
  | cons h t ih =>
    intro x hx
    rcases List.mem_cons.mp hx with e | e
    · subst e; exact ⟨_, List.mem_cons_self, h⟩
    · obtain ⟨kv, h1, h2⟩ := ih x e
      exact ⟨kv, List.mem_cons_of_mem _ h1, h2⟩
theorem NdR.app {B : Hp} {xs ys : List NE} {kvs mvs : List (Stand × PyData)} (r : NdR B xs kvs) (r2 : NdR B ys mvs) : NdR B (xs ++ ys) (kvs ++ mvs) := by
  unfold NdR at r r2 ⊢
  induction r with
  | nil => exact r2
  | cons h t ih => exact .cons h ih
def On (P : Program) (w : World) (kvs : List (Stand × PyData)) : Ow := ⟨fun d B o => ∃ xs, o = NdO P w d xs ∧ NdR B xs kvs, fun _ _ _ _ e ⟨xs, h1, h2⟩ => ⟨xs, h1, h2.up e⟩⟩

section
variable {P : Program} {w : World} {H : Hp} {h : Heap} {d : Addr} {xs : List NE} {kvs : List (Stand × PyData)}
theorem nd_of (ok : HOk P w H h) (e : H d = some (NdO P w d xs)) (r : NdR H xs kvs) : (d == sysModules) = false ∧ h.DictOfH (nestedKind P w) d xs := by
  obtain ⟨⟨h0, o, es, ep, h1, h2, h3, h4, h5⟩, _⟩ := (show ObjOk P w H h d (NdO P w d xs) from ok d _ e)
  refine ⟨h0, o, es, ep, h1, h2, h3, h4, fun x hx => ?_, h5⟩
  obtain ⟨kv, _, k1, k2, _⟩ := r.mem x hx
  rw [k1]
  exact is_key ok k2
theorem nd_new {H' : Hp} {h' : Heap} (h0 : (d == sysModules) = false) (m : h'.DictOfH (nestedKind P w) d xs) : ObjOk P w H' h' d (NdO P w d xs) := by
  obtain ⟨o, es, ep, h1, h2, h3, h4, _, h5⟩ := m
  refine ⟨⟨h0, o, es, ep, h1, h2, h3, h4, h5⟩, ⟨o, h1⟩, fun g1 g2 ⟨q0, o', es', ep', q1, q2⟩ k => ⟨q0, o', es', ep', k o' q1, q2⟩⟩
theorem at_none {K : Type} [DecidableEq K] {ys : List (K × Addr × Value)} {k : K} : atKey ys k = none ↔ k ∉ ys.map (·.1) := by
  induction ys with
  | nil => simp [atKey]
  | cons y ys ih =>
    by_cases c : y.1 = k
    · simp [atKey, c]
    · have c' : ¬ k = y.1 := fun z => c z.symm
      simp [atKey, c, c']
      simpa [atKey] using ih
theorem key_mem (r : NdR H xs kvs) (s : Stand) : skey s ∈ xs.map (·.1) ↔ s ∈ kvs.map (·.1) := by
  rw [r.keys, List.mem_map, List.mem_map]
  exact ⟨fun ⟨kv, h1, h2⟩ => ⟨kv, h1, skey_inj h2⟩, fun ⟨kv, h1, h2⟩ => ⟨kv, h1, by rw [h2]⟩⟩
theorem at_some (r : NdR H xs kvs) {s : Stand} (hs : s ∈ kvs.map (·.1)) : ∃ x ∈ xs, x.1 = skey s ∧ atKey xs (skey s) = some x.2 := by
  cases q : atKey xs (skey s) with
  | none => exact absurd ((key_mem r s).mpr hs) (at_none.mp q)
  | some p =>
    unfold atKey at q
    obtain ⟨x, hx, e⟩ := Option.map_eq_some_iff.mp q
    have h1 := List.mem_of_find?_eq_some hx
    have h2 := List.find?_some hx
    exact ⟨x, h1, by simpa using h2, by rw [e]⟩
end
def rNotInN (P : Program) (w : World) : R2 := fun x y H Q => ∃ d xs kvs s, y = .ref d ∧ H d = some (NdO P w d xs) ∧ NdR H xs kvs ∧ Is H x (sD s) ∧ Q (.bl (!decide (s ∈ kvs.map (·.1)))) H
def rGetN (P : Program) (w : World) : R2 := fun x y H Q => ∃ d xs kvs s, x = .ref d ∧ H d = some (NdO P w d xs) ∧ NdR H xs kvs ∧ Is H y (sD s) ∧ s ∈ kvs.map (·.1) ∧ ∀ z ∈ xs, z.1 = skey s → ∀ v, RelV v z.2.2 → Q v H
def rSetN (P : Program) (w : World) : V → V → V → Hp → (Hp → Prop) → Prop := fun o i v H Q => ∃ d xs kvs s a, o = .ref d ∧ H d = some (NdO P w d xs) ∧ NdR H xs kvs ∧ i = .ref a ∧ Is H i (sD s) ∧ s ∉ kvs.map (·.1) ∧ kvs.length < sizeLine ∧ ∀ u, RelV v u → Q (upd H d (NdO P w d (xs ++ [(skey s, a, u)])))
def rListN (P : Program) (w : World) : List V → Hp → VK → Prop := fun vs H Q => ∃ d xs kvs, vs = [.ref d] ∧ H d = some (NdO P w d xs) ∧ NdR H xs kvs ∧ kvs.length ≤ sizeLine ∧ ∀ p, H p = none → Q (.ref p) (upd H p (.lst (xs.map fun x => V.ref x.2.1)))
def rLenN (P : Program) (w : World) : List V → Hp → VK → Prop := fun vs H Q => ∃ d xs kvs, vs = [.ref d] ∧ H d = some (NdO P w d xs) ∧ NdR H xs kvs ∧ kvs.length ≤ sizeLine ∧ Q (.int kvs.length) H
def tDispN (P : Program) (w : World) (tk tv : TE) : TE := fun σ H Q => ∀ p, H p = none → tk σ (upd H p (NdO P w p [])) fun x H1 => tv σ H1 fun y H2 => H2 p = some (NdO P w p []) ∧ ∃ a s, x = .ref a ∧ Is H2 x (sD s) ∧ ∀ u, RelV y u → Q (.ref p) (upd H2 p (NdO P w p [(skey s, a, u)]))
theorem is_ref {B : Hp} {v : V} {s : Stand} (h : Is B v (sD s)) : ∃ a, v = .ref a := by
  obtain ⟨a, _, e, _⟩ := is_tup h
  exact ⟨a, e⟩
section
variable {X : Cx}
theorem op_notInN (hu : X.A.units + 64 < cLine) : OpR X (compareOp .NotIn) (rNotInN X.prog X.w) := by
  intro pins s σ H x y v u Q I rx ry h
  obtain ⟨d, xs, kvs, t, rfl, e, r, ix, q⟩ := h
  obtain ⟨a, rfl⟩ := is_ref ix
  cases rx
  cases ry
  obtain ⟨hs, m⟩ := nd_of I.hok e r
  have hk := is_key I.hok ix
  rw [show compareOp .NotIn (Value.ref a) (Value.ref d) = (do return Value.bool (!(← contains (Value.ref d) (Value.ref a)))) from rfl]
  refine wpAny_bind (wpAny_contains_heap (knd := nestedKind X.prog X.w) (by show X.A.units + 1 + 8 < cLine; omega) hk hs m (wpAny_pure ?_))
  have e2 : (atKey xs (skey t)).isSome = decide (t ∈ kvs.map (·.1)) := by
    rw [Bool.eq_iff_iff, decide_eq_true_eq, ← key_mem r t]
    cases z : atKey xs (skey t) with
    | none => exact ⟨fun q => Bool.noConfusion q, fun q => absurd q (at_none.mp z)⟩
    | some p => exact ⟨fun _ => Classical.byContradiction fun c => (by rw [at_none.mpr c] at z; cases z), fun _ => rfl⟩
  rw [e2]
  exact ⟨.bl _, H, I.tok _, rfl, q⟩
theorem ix_getN (hu : X.A.units + 64 < cLine) : IxR X (rGetN X.prog X.w) := by
  intro value slice pins s σ H x y v u Q I rx ry h hs
  obtain ⟨d, xs, kvs, t, rfl, e, r, ix, ht, q⟩ := h
  obtain ⟨a, rfl⟩ := is_ref ix
  cases rx
  cases ry
  obtain ⟨h0, m⟩ := nd_of I.hok e r
  have hk := is_key I.hok ix
  obtain ⟨z, hz, z1, z2⟩ := at_some r ht
  obtain ⟨kv, _, _, _, w', rw', _⟩ := r.mem z hz
  refine tail_any m.typeIs PySem.F.slot_dict_getitem.lookup (wpAny_getItem_heap (knd := nestedKind X.prog X.w) (by show X.A.units + 1 + 8 < cLine; omega) hk m z2 ⟨w', H, I.tok _, rw', q z hz z1 w' rw'⟩) hs
theorem set_N (hu : X.A.units + 64 < cLine) : PSet X (rSetN X.prog X.w) := by
  intro pins s σ H o i v ov iv u Q I ro ri rv h
  obtain ⟨d, xs, kvs, t, a, rfl, e, r, rfl, ix, ht, hz, q⟩ := h
  cases ro
  cases ri
  obtain ⟨h0, m⟩ := nd_of I.hok e r
  have hk := is_key I.hok ix
  have hn : atKey xs (skey t) = none := at_none.mpr fun z => ht ((key_mem r t).mp z)
  refine wpAny_setItem_heap (knd := nestedKind X.prog X.w) (hsz := by rw [r.len]; omega) (by show X.A.units + 1 + 8 < cLine; omega) hk m fun h' m' sb => ?_
  have es : storedH xs (skey t) a u = xs ++ [(skey t, a, u)] := by
    unfold storedH
    rw [hn]
    rfl
  rw [es] at m'
  have he : ∃ o, h'.get? d = some o := by
    obtain ⟨o, _, _, ho, _⟩ := m'
    exact ⟨o, ho⟩
  exact ⟨_, I.write (x := d) (e := d) (by rw [e]; trivial) (.inl rfl) (fun b ob hb q => (sb.2 b hb).trans q) he (nd_new h0 m'), q u rv⟩
theorem cr_listN (hc : X.calm = true) : CallR X (.type "list") (rListN X.prog X.w) := by
  intro pins s σ H vs us Q I rv h
  obtain ⟨d, xs, kvs, rfl, e, r, hz, q⟩ := h
  rw [Vals.ref1 rv]
  obtain ⟨h0, m⟩ := nd_of I.hok e r
  obtain ⟨o, es, ep, ho, hx, hdt, he, _, _⟩ := m
  have l1 : es.size = xs.length := size_of_entries he
  refine PySem.W.kdl_call (kdl_raw h0 hx hdt) (I.ok.hd hc) ho (by rw [l1, r.len]; exact hz) fun h' tk acc' c' kp eL it => ?_
  have ea : acc'.toList = (xs.map fun x => x.2.1).map Value.ref := by
    have hl : acc'.toList.length = xs.length := by rw [Array.length_toList, it.1]; exact l1
    apply List.ext_getElem?
    intro j
    rw [List.getElem?_map, List.getElem?_map]
    cases hj : acc'.toList[j]? with
    | none =>
      rw [List.getElem?_eq_none (by have := List.getElem?_eq_none_iff.mp hj; omega)]
      rfl
    | some v =>
      obtain ⟨en, hen, hv⟩ := it.2 j v (by rw [← Array.getElem?_toList]; exact hj)
      have qe := entry_at he j
      rw [hen] at qe
      cases hb : xs[j]? with
      | none => rw [hb] at qe; cases qe
      | some b =>
        rw [hb] at qe
        have e2 := Option.some.inj qe
        rw [hv, e2]
        rfl
  have rv' : Vals (xs.map fun x => V.ref x.2.1) acc'.toList := by
    rw [ea]
    have := vals_refs (xs.map fun x => x.2.1)
    rw [List.map_map] at this
    exact this
  have hl' : (xs.map fun x => V.ref x.2.1).length ≤ sizeLine := by rw [List.length_map, r.len]; exact hz
  refine ⟨.ref s.heap.objs.size, _, I.laid (t' := tk) (o := .lst (xs.map fun x => V.ref x.2.1)) kp (Nat.le_refl _) ⟨hl', acc'.toList, c', rv', by rw [Array.toArray_toList]; exact eL⟩, rfl, q _ (I.hok.fresh (Nat.le_refl _))⟩
theorem cr_lenN : CallR X (.builtin "len") (rLenN X.prog X.w) := by
  intro pins s σ H vs us Q I rv h
  obtain ⟨d, xs, kvs, rfl, e, r, hz, q⟩ := h
  rw [Vals.ref1 rv]
  obtain ⟨h0, m⟩ := nd_of I.hok e r
  have hs := sizeLine_eq
  have mk : s.heap.DictKeyed (nestedKind X.prog X.w) d (pairsH xs) := ⟨xs, m, rfl⟩
  have hl : (pairsH xs).length = kvs.length := by rw [pairsH_length, r.len]
  refine PyProof.Rows.call_len_slot (n := ((pairsH xs).length : Int)) mk.typeIs PySem.F.slot_dict_len (fun Q' hq => len_keyed h0 mk hq) (by omega) (by omega) ?_
  rw [hl]
  exact ⟨.int kvs.length, H, I.tok _, ⟨_, rfl⟩, q⟩
theorem pe_dispN {pos : Pos} {k v : Expr} {tk tv : TE} (hk : PE X k tk) (hv : PE X v tv) (hu : X.A.units + 64 < cLine) : PE X (.Dict [some k] [v] pos) (tDispN X.prog X.w tk tv) := by
  refine ⟨fun pins s σ H Q I q => ?_⟩
  have hn := I.hok.fresh (Nat.le_refl s.heap.objs.size)
  have h0 : (s.heap.objs.size == sysModules) = false := by
    have := I.big
    exact beq_eq_false_iff_ne.mpr (Nat.ne_of_gt this)
  have I1 := I.laid (a := s.heap.objs.size) (o := NdO X.prog X.w s.heap.objs.size []) (h' := s.heap.push { cls := .type "dict", data := .dict #[] }) (t' := s.toks) (fun _ _ q => Heap.get?_push_of_some _ q) (Nat.le_refl _)
    (nd_new h0 (Heap.DictOfH.new s.heap))
  rw [arm_eval_Dict, zip_pairTrees [some k] [v] X.env pos rfl rfl, dictDisplay_pairs (pairTrees [some k] [v] X.env pos) (fun z => nomatch z) (by show (1:Nat) < 17; decide)]
  refine wpAny_bind (wpAny_standAt (wpAny_bind (wpAny_subDictH (knd := nestedKind X.prog X.w) (by show X.A.units + 8 < cLine; omega) (by show (1:Nat) ≤ 15; decide) ?_)))
  refine pairTrees_cons_walk (thn (hk.run pins _ σ _ _ I1 (q _ hn)) fun u1 s1 ⟨x, H1, I1', rx, q1⟩ => thn (hv.run pins s1 σ H1 _ I1' q1) fun u2 s2 ⟨y, H2, I2, ry, e, a, t, ex, ix, q2⟩ => pairTrees_nil_walk ?_)
  subst ex
  cases rx
  obtain ⟨_, m⟩ := nd_of (kvs := []) I2.hok e .nil
  refine ⟨[(skey t, a, u2)], ⟨rfl, rfl, is_key I2.hok ix, trivial⟩, m, fun h' tk mk sb => wpAny_pure ?_⟩
  have mk' : h'.DictOfH (nestedKind X.prog X.w) s.heap.objs.size [(skey t, a, u2)] := mk
  have he : ∃ o, h'.get? s.heap.objs.size = some o := by
    obtain ⟨o, _, _, ho, _⟩ := mk'
    exact ⟨o, ho⟩
  exact ⟨.ref s.heap.objs.size, _, I2.write (x := s.heap.objs.size) (e := s.heap.objs.size) (by rw [e]; trivial) (.inl rfl) (fun b ob hb q => (sb.2 b hb).trans q) he (nd_new h0 mk'), rfl, q2 u2 ry⟩
end
end G

/-! ## part 10 -/
set_option Elab.async false
set_option linter.all false
set_option maxRecDepth 100000
set_option maxHeartbeats 2000000
/-! F10: rules over dicts. -/
namespace G
open PySem PySem.Spec PyProof.Rows L2
def rDictP (K : PySem.W.Frag) : List V → Hp → VK → Prop := fun xs H Q => ∃ (a : Addr) (ps : List Addr) (kvs : List (Key × V)), xs = [.ref a] ∧ SqL K H a (ps.map V.ref) ∧ Paired (fun p kv => SqT K H p [kV kv.1, kv.2]) ps kvs ∧
    ∀ p, H p = none → Q (.ref p) (upd H p (.dK (mergeK [] kvs)))
theorem cr_dictP {X : Cx} (hc : X.calm = true) : CallR X (.type "dict") (rDictP X.K) := call_dictP hc
/-- a dict of texts by names -/
def Osd (ns : List Str) : Ow := ⟨fun a B o => ∃ kvs, o = .dK kvs ∧ ∀ n ∈ ns, ∃ s, valV kvs (.inr n) = some (.str s), fun _ _ _ _ _ h => h⟩
theorem merge_val (n : Str) : ∀ (kvs : List (Str × Str)) (acc : List (Key × V)), (n ∈ kvs.map (·.1) ∨ ∃ s, valV acc (.inr n) = some (.str s)) → ∃ s, valV (mergeK acc (kvs.map fun kv => (.inr kv.1, .str kv.2))) (.inr n) = some (.str s)
  | [], acc, h => by
    rcases h with h | h
    · simp at h
    · exact h
  | kv :: kvs, acc, h => by
    show ∃ s, valV (mergeK (putK acc (.inr kv.1) (.str kv.2)) (kvs.map _)) (.inr n) = some (.str s)
    refine merge_val n kvs _ ?_
    by_cases c : kv.1 = n
    · right
      refine ⟨kv.2, ?_⟩
      rw [valV_put, if_pos (by rw [c])]
    · rcases h with h | ⟨s, h⟩
      · rw [List.map_cons, List.mem_cons] at h
        rcases h with h | h
        · exact absurd h.symm c
        · exact .inl h
      · refine .inr ⟨s, ?_⟩
        rw [valV_put, if_neg (fun z => c (Sum.inr.inj z).symm)]
        exact h
section
variable {Γ : List Sv} {te ta tb tc : TE} {tt tu : TT} {tas : TA} {K : PySem.W.Frag} {P : Program} {w : World} {R : List Sv → PyData → Prop} {R' : List Sv → Sv → Prop} {Nx Bk Ct : List Sv → Prop} {Rt : List Sv → Sv → Prop} {i : Nat}
theorem pairs_is {B H : Hp} (e : Ex B H) : ∀ {kvs : List (Str × Str)} {vs : List V}, IsAll B vs (kvs.map fun kv => PyData.tuple [.str kv.1, .str kv.2]) → ∃ ps : List Addr, vs = ps.map V.ref ∧ Paired (fun p (kv : Key × V) => SqT K H p [kV kv.1, kv.2]) ps (kvs.map fun kv => (Sum.inr kv.1, V.str kv.2))
  | [], _, h => by
    have h' : IsAll B _ [] := h
    cases h'
    exact ⟨[], rfl, .nil⟩
  | kv :: kvs, _, h => by
    have h' : IsAll B _ (PyData.tuple [.str kv.1, .str kv.2] :: kvs.map fun kv => PyData.tuple [.str kv.1, .str kv.2]) := h
    cases h' with
    | cons r t =>
      obtain ⟨ps, e1, e2⟩ := pairs_is e t
      obtain ⟨a, ws, rfl, g1, g2⟩ := is_tup r
      cases g2 with
      | cons r1 g2 =>
        cases g2 with
        | cons r2 g2 =>
          cases g2
          cases r1
          cases r2
          exact ⟨a :: ps, by rw [e1]; rfl, .cons (SqT.of (e _ _ g1)) e2⟩
theorem ew_dictP (h : Ed te Γ fun Γ1 x => ∃ kvs : List (Str × Str), x = .list (kvs.map fun kv => PyData.tuple [.str kv.1, .str kv.2]) ∧ R' Γ1 (.o (Osd (kvs.map (·.1))))) : Ew (tCB (rDictP K) (tCons te tNil)) Γ R' := fun B0 H0 B σ H S Q k =>
  h B0 H0 B σ H S _ fun Γ1 x v B1 H1 ⟨kvs, ex, h1⟩ S1 e1 i1 => by
    subst ex
    obtain ⟨a, vs, rfl, g1, g2⟩ := is_lst i1
    obtain ⟨ps, rfl, g3⟩ := pairs_is (K := K) S1.bh g2
    refine ⟨a, ps, _, rfl, SqL.of (S1.bh _ _ g1), g3, fun p hp => ?_⟩
    refine k Γ1 _ _ B1 _ h1 (S1.grow (Grow.new' S1.bh hp)) e1 ⟨p, _, rfl, S1.bh.free hp, S1.h0.free hp, upd_same, ⟨_, rfl, fun n hn => merge_val n kvs [] (.inl hn)⟩, nown_new S1 hp⟩
theorem ed_dget (h0 : ∃ p, Γ[i]? = some (.o p)) (h : Ed tb Γ fun Γ1 y => ∃ ns n, Γ1[i]? = some (.o (Osd ns)) ∧ y = .str n ∧ n ∈ ns ∧ ∀ s, R Γ1 (.str s)) : Ed (tDGet (tVar i) tb) Γ R := fun B0 H0 B σ H S Q k => by
  obtain ⟨p, h0⟩ := h0
  obtain ⟨a, o, h1, _⟩ := S.own h0
  refine ⟨_, h1, h B0 H0 B σ H S _ fun Γ1 y w B1 H1 ⟨ns, n, e, ey, hn, hr⟩ S1 e1 i1 => ?_⟩
  subst ey
  obtain ⟨a', o', g1, g2, g3, g4, kvs, rfl, g5⟩ := S1.own e
  rw [h1] at g1
  cases g1
  obtain ⟨s, hs⟩ := g5 n hn
  refine ⟨a, .str s, rfl, ?_, k Γ1 _ _ B1 H1 (hr s) S1 e1 (.str s)⟩
  rw [is_str i1, ← hs]
  exact DGet.k (k := .inr n) g4

/-! dicts by stands -/
theorem On.mono_key {B : Hp} {d : Addr} {o : HO} {kvs : List (Stand × PyData)} (h : (On P w kvs).φ d B o) : ∃ xs, o = NdO P w d xs ∧ NdR B xs kvs := h
theorem ed_notInN {s : Stand} {R : List Sv → PyData → Prop} (h : Ed ta Γ fun Γ1 x => ∃ s kvs, x = sD s ∧ Γ1[i]? = some (.o (On P w kvs)) ∧ R Γ1 (.bool (!decide (s ∈ kvs.map (·.1))))) : Ed (tOp (rNotInN P w) ta (tVar i)) Γ R := fun B0 H0 B σ H S Q k =>
  h B0 H0 B σ H S _ fun Γ1 x v B1 H1 ⟨s, kvs, ex, e, hr⟩ S1 e1 i1 => by
    subst ex
    obtain ⟨d, o, g1, g2, g3, g4, xs, rfl, g5⟩ := S1.own e
    exact ⟨_, g1, d, xs, kvs, s, rfl, g4, g5.up S1.bh, i1.up S1.bh, k Γ1 _ _ B1 H1 hr S1 e1 (.bl _)⟩
theorem NdR.find {B : Hp} {xs : List NE} {kvs : List (Stand × PyData)} (r : NdR B xs kvs) : ∀ z ∈ xs, ∃ kv ∈ kvs, z.1 = skey kv.1 ∧ ∃ v, RelV v z.2.2 ∧ Is B v kv.2 := fun z hz => by
  obtain ⟨kv, h1, h2, _, h3⟩ := r.mem z hz
  exact ⟨kv, h1, h2, h3⟩
/-- the value of a key -/
def valN (kvs : List (Stand × PyData)) (s : Stand) : Option PyData := (kvs.find? fun kv => decide (kv.1 = s)).map (·.2)
theorem ed_getN (h0 : ∃ p, Γ[i]? = some (.o p)) (h : Ed tb Γ fun Γ1 y => ∃ kvs s, Γ1[i]? = some (.o (On P w kvs)) ∧ y = sD s ∧ s ∈ kvs.map (·.1) ∧ ∀ d, (s, d) ∈ kvs → R Γ1 d) : Ed (tOp (rGetN P w) (tVar i) tb) Γ R := fun B0 H0 B σ H S Q k => by
  obtain ⟨p, h0⟩ := h0
  obtain ⟨a, o, h1, _⟩ := S.own h0
  refine ⟨_, h1, h B0 H0 B σ H S _ fun Γ1 y u B1 H1 ⟨kvs, s, e, ey, hs, hr⟩ S1 e1 i1 => ?_⟩
  subst ey
  obtain ⟨d, o, g1, g2, g3, g4, xs, rfl, g5⟩ := S1.own e
  rw [h1] at g1
  cases g1
  refine ⟨a, xs, kvs, s, rfl, g4, g5.up S1.bh, i1.up S1.bh, hs, fun z hz ez v rv => ?_⟩
  obtain ⟨kv, q1, q2, v', q3, q4⟩ := g5.find z hz
  have := rv.inj q3
  subst this
  have ek : kv.1 = s := skey_inj (q2.symm.trans ez)
  obtain ⟨s', d⟩ := kv
  cases ek
  exact k Γ1 d v B1 H1 (hr d q1) S1 e1 q4
theorem sw_setN (h : Ed te Γ fun Γ1 d => (∃ p, Γ1[i]? = some (.o p)) ∧ Ed tb Γ1 fun Γ2 y => ∃ kvs s, Γ2[i]? = some (.o (On P w kvs)) ∧ y = sD s ∧ s ∉ kvs.map (·.1) ∧ kvs.length < sizeLine ∧ Nx (Γ2.set i (.o (On P w (kvs ++ [(s, d)]))))) :
    Sw (tAsg te (gSub (tVar i) tb (rSetN P w))) Γ Nx Rt Bk Ct := fun B0 H0 B σ H D S n r b c =>
  h B0 H0 B σ H S _ fun Γ1 d v B1 H1 ⟨⟨p, hp⟩, h1⟩ S1 e1 i1 => by
    obtain ⟨a, o, g1, _⟩ := S1.own hp
    refine ⟨_, g1, h1 B0 H0 B1 σ H1 S1 _ fun Γ2 y u B2 H2 ⟨kvs, s, e, ey, hs, hz, hn⟩ S2 e2 i2 => ?_⟩
    subst ey
    obtain ⟨a', o', k1, k2, k3, k4, xs, rfl, k5⟩ := S2.own e
    rw [g1] at k1
    cases k1
    obtain ⟨b', rfl⟩ := is_ref i2
    refine ⟨a, xs, kvs, s, b', rfl, k4, k5.up S2.bh, rfl, i2.up S2.bh, hs, hz, fun u' ru => ?_⟩
    exact n _ B2 _ _ hn (S2.write e g1 ⟨_, rfl, k5.app (.cons ⟨rfl, i2, v, ru, i1.up e2⟩ .nil)⟩) (e1.trans e2)
theorem ew_listN {kvs : List (Stand × PyData)} (h0 : Γ[i]? = some (.o (On P w kvs))) (hz : kvs.length ≤ sizeLine) (hr : R' Γ (.o (Ol (kvs.map fun kv => sD kv.1)))) : Ew (tCB (rListN P w) (tCons (tVar i) tNil)) Γ R' := fun B0 H0 B σ H S Q k => by
  obtain ⟨d, o, g1, g2, g3, g4, xs, rfl, g5⟩ := S.own h0
  refine ⟨_, g1, d, xs, kvs, rfl, g4, g5.up S.bh, hz, fun p hp => ?_⟩
  have ia : IsAll B (xs.map fun x => V.ref x.2.1) (kvs.map fun kv => sD kv.1) := by
    unfold NdR at g5
    clear g4 h0 hr k hz
    induction g5 with
    | nil => exact .nil
    | cons h t ih => exact .cons h.2.1 ih
  have m := S.made hp ia
  exact k Γ _ _ B _ hr m.1 (Ex.refl _) m.2
theorem ed_lenN {kvs : List (Stand × PyData)} (h0 : Γ[i]? = some (.o (On P w kvs))) (hz : kvs.length ≤ sizeLine) (hr : R Γ (.int kvs.length)) : Ed (tCB (rLenN P w) (tCons (tVar i) tNil)) Γ R := fun B0 H0 B σ H S Q k => by
  obtain ⟨d, o, g1, g2, g3, g4, xs, rfl, g5⟩ := S.own h0
  exact ⟨_, g1, d, xs, kvs, rfl, g4, g5.up S.bh, hz, k Γ _ _ B H hr S (Ex.refl _) (.int _)⟩
theorem ew_dispN (h : Ed ta Γ fun Γ1 x => ∃ s, x = sD s ∧ Ed tb Γ1 fun Γ2 d => R' Γ2 (.o (On P w [(s, d)]))) : Ew (tDispN P w ta tb) Γ R' := fun B0 H0 B σ H S Q k => fun p hp => by
  have S1 := S.grow (Grow.new' (o := NdO P w p []) S.bh hp)
  have nB := S.bh.free hp
  have n0 := S.h0.free hp
  have no := nown_new S hp
  -- the heap without the dict: the entries stand beside
  have S2 := S1.rebase
  have no1 : NoOwn Γ σ p := no
  have mp : mns Γ σ (upd H p (NdO P w p [])) p = some (NdO P w p []) := by rw [mns_of no1]; exact upd_same
  refine h B (mns Γ σ (upd H p (NdO P w p []))) B σ _ S2 _ fun Γ1 x v B1 H1 ⟨s, ex, h1⟩ T1 e1 i1 => ?_
  subst ex
  refine h1 _ _ B1 σ H1 T1 _ fun Γ2 d u B2 H2 hr T2 e2 i2 => ?_
  have hp2 : H2 p = some (NdO P w p []) := T2.h0 _ _ mp
  have nB2 : B2 p = none := T2.nb p _ mp nB
  have U := S1.unbase T2
  have noE : NoOwn Γ2 σ p := fun j q ej hj => by
    obtain ⟨b, o, f1, f2, f3, _⟩ := T2.own ej
    rw [hj] at f1
    cases f1
    rw [mp] at f3
    cases f3
  obtain ⟨a, rfl⟩ := is_ref i1
  refine ⟨hp2, a, s, rfl, i1.up (e2.trans T2.bh), fun u' ru => ?_⟩
  exact k Γ2 _ _ B2 _ hr (U.side nB2 n0 noE) (e1.trans e2) ⟨p, _, rfl, nB2, n0, upd_same, ⟨_, rfl, .cons ⟨rfl, i1.up e2, u, ru, i2⟩ .nil⟩, noE⟩
end
end G

/-! ## part 11 -/
set_option Elab.async false
set_option linter.all false
set_option maxRecDepth 100000
set_option maxHeartbeats 2000000
/-! F11: the defs' frames. -/
namespace G
open PySem PySem.Spec PyProof.Rows L2
def topS (i : Nat) : Stmt := PySem.Challenge.pw_delaygates_k18_whole_numbered_anew.main.body.getD i (.Pass ⟨0, 0, 0, 0⟩)
structure Blt (mg : Str → Option Value) : Prop where
  len : mg "len" = none
  list : mg "list" = none
  tuple : mg "tuple" = none
  sorted : mg "sorted" = none
  set : mg "set" = none
  abs : mg "abs" = none
  max : mg "max" = none
  min : mg "min" = none
  int : mg "int" = none
  dict : mg "dict" = none
  isinstance : mg "isinstance" = none
  zip : mg "zip" = none
  enumerate : mg "enumerate" = none
  range : mg "range" = none
/-- a def that keeps its promise, as its callers see it -/
structure Cal (P : Program) (w : World) (K : PySem.W.Frag) (mg : Str → Option Value) (base : Heap) (k : Nat) (x : Str) (ps : List Str) (sp : Sp) : Prop where
  ex : ∃ f fd, FnOk P w K mg base CX0 k f fd ps sp ∧ PySem.W.keepIn K (.ref f) = true ∧ Binds K fd ps [] ∧ mg x = some (.ref f)
theorem pe_callC {X : Cx} {j k : Nat} {x : Str} {ps : List Str} {sp : Sp} {p pos : Pos} {e : Expr} {es : List Expr} {t : TA} (c : Cal X.prog X.w X.K X.mg X.base k x ps sp) (hr : Room j X.A) (hk : k ≤ j) (hg : Gl X x) (ha : PA X (e :: es) t)
    (hdb : (x == ("__debug__" : Str)) = false := by decide) (he : starEach (e :: es) X.env = (false, eval e X.env) :: starEach es X.env := by rfl) (hpl : (backTo pos (starEach es X.env)).any (·.1) = false := by rfl) :
    PE X (.Call (.Name x p) (e :: es) [] pos) (tCall sp [] E0 t) := by
  obtain ⟨f, fd, F, kp, b, g⟩ := c.ex
  exact pe_call F (hr.mono hk) hg g kp b .nil pass0 ha hdb he hpl
end G

/-! ## part 12 -/
set_option Elab.async false
set_option linter.all false
set_option maxRecDepth 100000
set_option maxHeartbeats 4000000
namespace G
open PySem PySem.Spec PyProof.Rows L2
abbrev s_first_of : Stmt := topS 1
abbrev N_first_of : List Str := ["sheet", "spot", "wire"]
theorem sc_first_of : FnScope N_first_of ["sheet"] (defScope s_first_of) := ⟨rfl, rfl, rfl, by decide +kernel, rfl, by decide +kernel, by decide +kernel⟩
def t_first_of (K : PySem.W.Frag) : TS :=
  (tRet (tTup (tCons (tCB (rTupS K) (tCons (tLc (iTup K (tOp (rIxT K) (tVar 0) (tC (.int 2)))) (gName 1) tYes (tOp (rIxT K) (tVar 1) (tC (.int 2))) [1]) tNil)) (tCons (tCB (rTupS K) (tCons (tLc (iTup K (tOp (rIxT K) (tVar 0) (tC (.int 0)))) (gName 2) tYes (tOp (rIxT K) (tVar 2) (tC (.int 2))) [2]) tNil)) tNil))))
theorem b_first_of {P : Program} {w : World} {K : PySem.W.Frag} {mg : Str → Option Value} {base : Heap} (M : Blt mg) (cdv : Value) (A : Around) (outer : List Env) (s : Shared) (H : Hp) (f : Addr)
    (hr : Room 0 (A.deeper (envOfC "first_of" (defScope s_first_of) s.heap.objs.size f cdv))) : PSs (cxOf CX0 P w K mg base N_first_of "first_of" (defScope s_first_of) f cdv A outer s H E0).nox (defBody s_first_of) (t_first_of K) := by
  have hu : (A.deeper (envOfC "first_of" (defScope s_first_of) s.heap.objs.size f cdv)).units + 64 < cLine := hr.units
  have hu65 : (A.deeper (envOfC "first_of" (defScope s_first_of) s.heap.objs.size f cdv)).units + 65 < cLine := by have := hr.un; omega
  have hu1 : (A.deeper (envOfC "first_of" (defScope s_first_of) s.heap.objs.size f cdv)).units + 1 < cLine := by have := hr.un; omega
  exact
      (pss_one (ps_ret (pe_tup (pa_cons (pe_callTy cr_tup rfl M.tuple boot_tuple (pa_cons (pe_lc (own := [("spot", 1)]) rfl sc_first_of.nd (pi_tup (pe_ix ix_tup (pv 0) pe_int (fun _ _ => rfl))) (blkOk_by (N := N_first_of) (sc := defScope s_first_of) (by decide +kernel)) (fun _ _ _ _ _ => (pg_name (i := 1) sc_first_of.nd rfl (.inl rfl))) (fun _ _ _ _ _ => pts_nil) (fun _ _ _ _ _ => (pe_ix ix_tup (pv 1) pe_int (fun _ _ => rfl)))) pa_nil)) (pa_cons (pe_callTy cr_tup rfl M.tuple boot_tuple (pa_cons (pe_lc (own := [("wire", 2)]) rfl sc_first_of.nd (pi_tup (pe_ix ix_tup (pv 0) pe_int (fun _ _ => rfl))) (blkOk_by (N := N_first_of) (sc := defScope s_first_of) (by decide +kernel)) (fun _ _ _ _ _ => (pg_name (i := 2) sc_first_of.nd rfl (.inl rfl))) (fun _ _ _ _ _ => pts_nil) (fun _ _ _ _ _ => (pe_ix ix_tup (pv 2) pe_int (fun _ _ => rfl)))) pa_nil)) pa_nil)))))
abbrev s_may_turn : Stmt := topS 2
abbrev N_may_turn : List Str := ["sheet", "marks", "barred", "spot", "here", "k", "turn"]
theorem sc_may_turn : FnScope N_may_turn ["sheet", "marks"] (defScope s_may_turn) := ⟨rfl, rfl, rfl, by decide +kernel, rfl, by decide +kernel, by decide +kernel⟩
def t_may_turn (K : PySem.W.Frag) : TS :=
  (tSeq (tAsg (tLc (iTup K (tOp (rIxT K) (tVar 0) (tC (.int 1)))) (gName 6) tYes (tC (.bl false)) [6]) (gName 2))
  (tSeq (tFor (RZ.iZipA K (tCons (tOp (rIxT K) (tVar 0) (tC (.int 2))) (tCons (tVar 1) tNil))) (gTup K 2 (gCons (gName 3) (gCons (gName 4) gNil))) (tIfS (tTest (tOp rEq (tVar 4) (tC (.int 0)))) (tFor (iTup K (tOp (rIxT K) (tVar 3) (tC (.int 1)))) (gName 5) (tAsg (tC (.bl true)) (gSub (tVar 2) (tVar 5) L2.rSetL))) tNext))
  (tRet (tLc (iRng1 (tCons (tCB (rLenS K) (tCons (tVar 2) tNil)) tNil)) (gName 5) (tNot (tB (tOp (rIxL K) (tVar 2) (tVar 5)))) (tVar 5) [5]))))
theorem b_may_turn {P : Program} {w : World} {K : PySem.W.Frag} {mg : Str → Option Value} {base : Heap} (M : Blt mg) (cdv : Value) (A : Around) (outer : List Env) (s : Shared) (H : Hp) (f : Addr)
    (hr : Room 0 (A.deeper (envOfC "may_turn" (defScope s_may_turn) s.heap.objs.size f cdv))) : PSs (cxOf CX0 P w K mg base N_may_turn "may_turn" (defScope s_may_turn) f cdv A outer s H E0).nox (defBody s_may_turn) (t_may_turn K) := by
  have hu : (A.deeper (envOfC "may_turn" (defScope s_may_turn) s.heap.objs.size f cdv)).units + 64 < cLine := hr.units
  have hu65 : (A.deeper (envOfC "may_turn" (defScope s_may_turn) s.heap.objs.size f cdv)).units + 65 < cLine := by have := hr.un; omega
  have hu1 : (A.deeper (envOfC "may_turn" (defScope s_may_turn) s.heap.objs.size f cdv)).units + 1 < cLine := by have := hr.un; omega
  exact
      (pss_cons (ps_set (i := 2) sc_may_turn.nd rfl (.inr rfl) (pe_lc (own := [("turn", 6)]) rfl sc_may_turn.nd (pi_tup (pe_ix ix_tup (pv 0) pe_int (fun _ _ => rfl))) (blkOk_by (N := N_may_turn) (sc := defScope s_may_turn) (by decide +kernel)) (fun _ _ _ _ _ => (pg_name (i := 6) sc_may_turn.nd rfl (.inl rfl))) (fun _ _ _ _ _ => pts_nil) (fun _ _ _ _ _ => pe_bl)))
      (pss_cons (ps_for PassesOwn.never rfl (RZ.pi_zipA rfl M.zip (pa_cons (pe_ix ix_tup (pv 0) pe_int (fun _ _ => rfl)) (pa_cons (pv 1) pa_nil))) (pg_tup rfl (pgs_cons (pg_name (i := 3) sc_may_turn.nd rfl (.inl rfl)) (pgs_cons (pg_name (i := 4) sc_may_turn.nd rfl (.inl rfl)) pgs_nil))) (pss_one (ps_if (pt_cmpR op_eq (pv 4) pe_int (nomark _)) (pss_one (ps_for PassesOwn.never rfl (pi_tup (pe_ix ix_tup (pv 3) pe_int (fun _ _ => rfl))) (pg_name (i := 5) sc_may_turn.nd rfl (.inl rfl)) (pss_one (ps_asg pe_bl (pg_sub (pv 2) (pv 5) set_list (fun _ => rfl)))))) pss_nil)))
      (pss_one (ps_ret (pe_lc (own := [("k", 5)]) rfl sc_may_turn.nd (pi_range1 rfl M.range (pa_cons (pe_callB cr_len rfl M.len PySem.boot_len (pa_cons (pv 2) pa_nil)) pa_nil)) (blkOk_by (N := N_may_turn) (sc := defScope s_may_turn) (by decide +kernel)) (fun _ _ _ _ _ => (pg_name (i := 5) sc_may_turn.nd rfl (.inl rfl))) (fun _ _ _ _ _ => (pts_one (pt_not (pt_val (pe_ix ix_list (pv 2) (pv 5) (fun _ _ => rfl)))))) (fun _ _ _ _ _ => (pv 5)))))))
abbrev s_behind : Stmt := topS 3
abbrev N_behind : List Str := ["sheet", "stand", "k", "marks", "at", "spot", "values", "name", "way", "wire"]
theorem sc_behind : FnScope N_behind ["sheet", "stand", "k"] (defScope s_behind) := ⟨rfl, rfl, rfl, by decide +kernel, rfl, by decide +kernel, by decide +kernel⟩
def t_behind (K : PySem.W.Frag) : TS :=
  (tSeq (tAsg (tCB (rListS K) (tCons (tOp (rIxT K) (tVar 1) (tC (.int 0))) tNil)) (gName 3))
  (tSeq (tFor (iEnumT K (tCons (tOp (rIxT K) (tVar 0) (tC (.int 2))) tNil)) (gTup K 2 (gCons (gName 4) (gCons (gName 5) gNil))) (tIfS (tTest (tOp (rIn K false) (tVar 2) (tOp (rIxT K) (tVar 5) (tC (.int 0))))) (tAsg (tC (.int 1)) (gSub (tVar 3) (tVar 4) L2.rSetL)) (tIfS (tTest (tOp (rIn K false) (tVar 2) (tOp (rIxT K) (tVar 5) (tC (.int 1))))) (tAsg (tC (.int 0)) (gSub (tVar 3) (tVar 4) L2.rSetL)) tNext)))
  (tSeq (tAsg (tCB (rListS K) (tCons (tOp (rIxT K) (tVar 1) (tC (.int 1))) tNil)) (gName 6))
  (tSeq (tAsg (tOp (rIxT K) (tOp (rIxT K) (tVar 0) (tC (.int 1))) (tVar 2)) (gTup K 2 (gCons (gName 7) (gCons (gName 8) gNil))))
  (tSeq (tFor (iEnumT K (tCons (tOp (rIxT K) (tVar 0) (tC (.int 0))) tNil)) (gTup K 2 (gCons (gName 4) (gCons (gName 9) gNil))) (tIfS (tTest (tOp rEq (tOp (rIxT K) (tVar 9) (tC (.int 0))) (tVar 7))) (tAsg (tVar 8) (gSub (tVar 6) (tVar 4) L2.rSetL)) tNext))
  (tRet (tTup (tCons (tCB (rTupS K) (tCons (tVar 3) tNil)) (tCons (tCB (rTupS K) (tCons (tVar 6) tNil)) tNil)))))))))
theorem b_behind {P : Program} {w : World} {K : PySem.W.Frag} {mg : Str → Option Value} {base : Heap} (M : Blt mg) (cdv : Value) (A : Around) (outer : List Env) (s : Shared) (H : Hp) (f : Addr)
    (hr : Room 0 (A.deeper (envOfC "behind" (defScope s_behind) s.heap.objs.size f cdv))) : PSs (cxOf CX0 P w K mg base N_behind "behind" (defScope s_behind) f cdv A outer s H E0).nox (defBody s_behind) (t_behind K) := by
  have hu : (A.deeper (envOfC "behind" (defScope s_behind) s.heap.objs.size f cdv)).units + 64 < cLine := hr.units
  have hu65 : (A.deeper (envOfC "behind" (defScope s_behind) s.heap.objs.size f cdv)).units + 65 < cLine := by have := hr.un; omega
  have hu1 : (A.deeper (envOfC "behind" (defScope s_behind) s.heap.objs.size f cdv)).units + 1 < cLine := by have := hr.un; omega
  exact
      (pss_cons (ps_set (i := 3) sc_behind.nd rfl (.inl rfl) (pe_callTy cr_list rfl M.list boot_list (pa_cons (pe_ix ix_tup (pv 1) pe_int (fun _ _ => rfl)) pa_nil)))
      (pss_cons (ps_for PassesOwn.never rfl (pi_enumT rfl M.enumerate (pa_cons (pe_ix ix_tup (pv 0) pe_int (fun _ _ => rfl)) pa_nil)) (pg_tup rfl (pgs_cons (pg_name (i := 4) sc_behind.nd rfl (.inl rfl)) (pgs_cons (pg_name (i := 5) sc_behind.nd rfl (.inl rfl)) pgs_nil))) (pss_one (ps_if (pt_cmpR op_in_seq (pv 2) (pe_ix ix_tup (pv 5) pe_int (fun _ _ => rfl)) (by first | rfl | with_unfolding_all rfl)) (pss_one (ps_asg pe_int (pg_sub (pv 3) (pv 4) set_list (fun _ => rfl)))) (pss_one (ps_if (pt_cmpR op_in_seq (pv 2) (pe_ix ix_tup (pv 5) pe_int (fun _ _ => rfl)) (by first | rfl | with_unfolding_all rfl)) (pss_one (ps_asg pe_int (pg_sub (pv 3) (pv 4) set_list (fun _ => rfl)))) pss_nil)))))
      (pss_cons (ps_set (i := 6) sc_behind.nd rfl (.inl rfl) (pe_callTy cr_list rfl M.list boot_list (pa_cons (pe_ix ix_tup (pv 1) pe_int (fun _ _ => rfl)) pa_nil)))
      (pss_cons (ps_asg (pe_ix ix_tup (pe_ix ix_tup (pv 0) pe_int (fun _ _ => rfl)) (pv 2) (fun _ _ => rfl)) (pg_tup rfl (pgs_cons (pg_name (i := 7) sc_behind.nd rfl (.inl rfl)) (pgs_cons (pg_name (i := 8) sc_behind.nd rfl (.inl rfl)) pgs_nil))))
      (pss_cons (ps_for PassesOwn.never rfl (pi_enumT rfl M.enumerate (pa_cons (pe_ix ix_tup (pv 0) pe_int (fun _ _ => rfl)) pa_nil)) (pg_tup rfl (pgs_cons (pg_name (i := 4) sc_behind.nd rfl (.inl rfl)) (pgs_cons (pg_name (i := 9) sc_behind.nd rfl (.inl rfl)) pgs_nil))) (pss_one (ps_if (pt_cmpR op_eq (pe_ix ix_tup (pv 9) pe_int (fun _ _ => rfl)) (pv 7) (nomark _)) (pss_one (ps_asg (pv 8) (pg_sub (pv 6) (pv 4) set_list (fun _ => rfl)))) pss_nil)))
      (pss_one (ps_ret (pe_tup (pa_cons (pe_callTy cr_tup rfl M.tuple boot_tuple (pa_cons (pv 3) pa_nil)) (pa_cons (pe_callTy cr_tup rfl M.tuple boot_tuple (pa_cons (pv 6) pa_nil)) pa_nil))))))))))
abbrev s_both_taken : Stmt := topS 5
abbrev N_both_taken : List Str := ["sheet", "j", "k", "spot"]
theorem sc_both_taken : FnScope N_both_taken ["sheet", "j", "k"] (defScope s_both_taken) := ⟨rfl, rfl, rfl, by decide +kernel, rfl, by decide +kernel, by decide +kernel⟩
def t_both_taken (K : PySem.W.Frag) : TS :=
  (tSeq (tFor (iTup K (tOp (rIxT K) (tVar 0) (tC (.int 2)))) (gName 3) (tIfS (tAnd (tTest (tOp (rIn K false) (tVar 1) (tOp (rIxT K) (tVar 3) (tC (.int 1))))) (tTest (tOp (rIn K false) (tVar 2) (tOp (rIxT K) (tVar 3) (tC (.int 1)))))) (tRet (tC (.bl true))) tNext))
  (tRet (tC (.bl false))))
theorem b_both_taken {P : Program} {w : World} {K : PySem.W.Frag} {mg : Str → Option Value} {base : Heap} (M : Blt mg) (cdv : Value) (A : Around) (outer : List Env) (s : Shared) (H : Hp) (f : Addr)
    (hr : Room 0 (A.deeper (envOfC "both_taken" (defScope s_both_taken) s.heap.objs.size f cdv))) : PSs (cxOf CX0 P w K mg base N_both_taken "both_taken" (defScope s_both_taken) f cdv A outer s H E0).nox (defBody s_both_taken) (t_both_taken K) := by
  have hu : (A.deeper (envOfC "both_taken" (defScope s_both_taken) s.heap.objs.size f cdv)).units + 64 < cLine := hr.units
  have hu65 : (A.deeper (envOfC "both_taken" (defScope s_both_taken) s.heap.objs.size f cdv)).units + 65 < cLine := by have := hr.un; omega
  have hu1 : (A.deeper (envOfC "both_taken" (defScope s_both_taken) s.heap.objs.size f cdv)).units + 1 < cLine := by have := hr.un; omega
  exact
      (pss_cons (ps_for PassesOwn.never rfl (pi_tup (pe_ix ix_tup (pv 0) pe_int (fun _ _ => rfl))) (pg_name (i := 3) sc_both_taken.nd rfl (.inl rfl)) (pss_one (ps_if (PW.pt (pw_and (pt_cmpR op_in_seq (pv 1) (pe_ix ix_tup (pv 3) pe_int (fun _ _ => rfl)) (by first | rfl | with_unfolding_all rfl)) (pw_and1 (pt_cmpR op_in_seq (pv 2) (pe_ix ix_tup (pv 3) pe_int (fun _ _ => rfl)) (by first | rfl | with_unfolding_all rfl))))) (pss_one (ps_ret pe_bl)) pss_nil)))
      (pss_one (ps_ret pe_bl)))
abbrev s_is_ask : Stmt := topS 6
abbrev N_is_ask : List Str := ["sheet", "k", "wire"]
theorem sc_is_ask : FnScope N_is_ask ["sheet", "k"] (defScope s_is_ask) := ⟨rfl, rfl, rfl, by decide +kernel, rfl, by decide +kernel, by decide +kernel⟩
def t_is_ask (K : PySem.W.Frag) : TS :=
  (tSeq (tFor (iTup K (tOp (rIxT K) (tVar 0) (tC (.int 0)))) (gName 2) (tIfS (tTest (tOp rEq (tOp (rIxT K) (tVar 2) (tC (.int 0))) (tOp (rIxT K) (tOp (rIxT K) (tOp (rIxT K) (tVar 0) (tC (.int 1))) (tVar 1)) (tC (.int 0))))) (tRet (tOp rEq (tOp (rIxT K) (tVar 2) (tC (.int 1))) (tC (.str "ask")))) tNext))
  (tRet (tC (.bl false))))
theorem b_is_ask {P : Program} {w : World} {K : PySem.W.Frag} {mg : Str → Option Value} {base : Heap} (M : Blt mg) (cdv : Value) (A : Around) (outer : List Env) (s : Shared) (H : Hp) (f : Addr)
    (hr : Room 0 (A.deeper (envOfC "is_ask" (defScope s_is_ask) s.heap.objs.size f cdv))) : PSs (cxOf CX0 P w K mg base N_is_ask "is_ask" (defScope s_is_ask) f cdv A outer s H E0).nox (defBody s_is_ask) (t_is_ask K) := by
  have hu : (A.deeper (envOfC "is_ask" (defScope s_is_ask) s.heap.objs.size f cdv)).units + 64 < cLine := hr.units
  have hu65 : (A.deeper (envOfC "is_ask" (defScope s_is_ask) s.heap.objs.size f cdv)).units + 65 < cLine := by have := hr.un; omega
  have hu1 : (A.deeper (envOfC "is_ask" (defScope s_is_ask) s.heap.objs.size f cdv)).units + 1 < cLine := by have := hr.un; omega
  exact
      (pss_cons (ps_for PassesOwn.never rfl (pi_tup (pe_ix ix_tup (pv 0) pe_int (fun _ _ => rfl))) (pg_name (i := 2) sc_is_ask.nd rfl (.inl rfl)) (pss_one (ps_if (pt_cmpR op_eq (pe_ix ix_tup (pv 2) pe_int (fun _ _ => rfl)) (pe_ix ix_tup (pe_ix ix_tup (pe_ix ix_tup (pv 0) pe_int (fun _ _ => rfl)) (pv 1) (fun _ _ => rfl)) pe_int (fun _ _ => rfl)) (nomark _)) (pss_one (ps_ret (pe_cmpR op_eq (pe_ix ix_tup (pv 2) pe_int (fun _ _ => rfl)) pe_str (nomark _)))) pss_nil)))
      (pss_one (ps_ret pe_bl)))
abbrev s_is_crowd : Stmt := topS 7
abbrev N_is_crowd : List Str := ["sheet", "marks", "k", "spot", "here"]
theorem sc_is_crowd : FnScope N_is_crowd ["sheet", "marks", "k"] (defScope s_is_crowd) := ⟨rfl, rfl, rfl, by decide +kernel, rfl, by decide +kernel, by decide +kernel⟩
def t_is_crowd (K : PySem.W.Frag) : TS :=
  (tSeq (tFor (RZ.iZipA K (tCons (tOp (rIxT K) (tVar 0) (tC (.int 2))) (tCons (tVar 1) tNil))) (gTup K 2 (gCons (gName 3) (gCons (gName 4) gNil))) (tIfS (tAnd (tTest (tOp rEq (tVar 4) (tC (.int 1)))) (tAnd (tTest (tOp (rIn K false) (tVar 2) (tOp (rIxT K) (tVar 3) (tC (.int 0))))) (tTest (tOp (rIn K true) (tVar 2) (tOp (rIxT K) (tVar 3) (tC (.int 1))))))) (tRet (tC (.bl true))) tNext))
  (tRet (tC (.bl false))))
theorem b_is_crowd {P : Program} {w : World} {K : PySem.W.Frag} {mg : Str → Option Value} {base : Heap} (M : Blt mg) (cdv : Value) (A : Around) (outer : List Env) (s : Shared) (H : Hp) (f : Addr)
    (hr : Room 0 (A.deeper (envOfC "is_crowd" (defScope s_is_crowd) s.heap.objs.size f cdv))) : PSs (cxOf CX0 P w K mg base N_is_crowd "is_crowd" (defScope s_is_crowd) f cdv A outer s H E0).nox (defBody s_is_crowd) (t_is_crowd K) := by
  have hu : (A.deeper (envOfC "is_crowd" (defScope s_is_crowd) s.heap.objs.size f cdv)).units + 64 < cLine := hr.units
  have hu65 : (A.deeper (envOfC "is_crowd" (defScope s_is_crowd) s.heap.objs.size f cdv)).units + 65 < cLine := by have := hr.un; omega
  have hu1 : (A.deeper (envOfC "is_crowd" (defScope s_is_crowd) s.heap.objs.size f cdv)).units + 1 < cLine := by have := hr.un; omega
  exact
      (pss_cons (ps_for PassesOwn.never rfl (RZ.pi_zipA rfl M.zip (pa_cons (pe_ix ix_tup (pv 0) pe_int (fun _ _ => rfl)) (pa_cons (pv 1) pa_nil))) (pg_tup rfl (pgs_cons (pg_name (i := 3) sc_is_crowd.nd rfl (.inl rfl)) (pgs_cons (pg_name (i := 4) sc_is_crowd.nd rfl (.inl rfl)) pgs_nil))) (pss_one (ps_if (PW.pt (pw_and (pt_cmpR op_eq (pv 4) pe_int (nomark _)) (pw_and (pt_cmpR op_in_seq (pv 2) (pe_ix ix_tup (pv 3) pe_int (fun _ _ => rfl)) (by first | rfl | with_unfolding_all rfl)) (pw_and1 (pt_cmpR op_notIn_seq (pv 2) (pe_ix ix_tup (pv 3) pe_int (fun _ _ => rfl)) (by first | rfl | with_unfolding_all rfl)))))) (pss_one (ps_ret pe_bl)) pss_nil)))
      (pss_one (ps_ret pe_bl)))
abbrev s_value_of : Stmt := topS 8
abbrev N_value_of : List Str := ["sheet", "values", "name", "wire", "value"]
theorem sc_value_of : FnScope N_value_of ["sheet", "values", "name"] (defScope s_value_of) := ⟨rfl, rfl, rfl, by decide +kernel, rfl, by decide +kernel, by decide +kernel⟩
def t_value_of (K : PySem.W.Frag) : TS :=
  (tSeq (tFor (RZ.iZipA K (tCons (tOp (rIxT K) (tVar 0) (tC (.int 0))) (tCons (tVar 1) tNil))) (gTup K 2 (gCons (gName 3) (gCons (gName 4) gNil))) (tIfS (tTest (tOp rEq (tOp (rIxT K) (tVar 3) (tC (.int 0))) (tVar 2))) (tRet (tVar 4)) tNext))
  (tRet (tC .non)))
theorem b_value_of {P : Program} {w : World} {K : PySem.W.Frag} {mg : Str → Option Value} {base : Heap} (M : Blt mg) (cdv : Value) (A : Around) (outer : List Env) (s : Shared) (H : Hp) (f : Addr)
    (hr : Room 0 (A.deeper (envOfC "value_of" (defScope s_value_of) s.heap.objs.size f cdv))) : PSs (cxOf CX0 P w K mg base N_value_of "value_of" (defScope s_value_of) f cdv A outer s H E0).nox (defBody s_value_of) (t_value_of K) := by
  have hu : (A.deeper (envOfC "value_of" (defScope s_value_of) s.heap.objs.size f cdv)).units + 64 < cLine := hr.units
  have hu65 : (A.deeper (envOfC "value_of" (defScope s_value_of) s.heap.objs.size f cdv)).units + 65 < cLine := by have := hr.un; omega
  have hu1 : (A.deeper (envOfC "value_of" (defScope s_value_of) s.heap.objs.size f cdv)).units + 1 < cLine := by have := hr.un; omega
  exact
      (pss_cons (ps_for PassesOwn.never rfl (RZ.pi_zipA rfl M.zip (pa_cons (pe_ix ix_tup (pv 0) pe_int (fun _ _ => rfl)) (pa_cons (pv 1) pa_nil))) (pg_tup rfl (pgs_cons (pg_name (i := 3) sc_value_of.nd rfl (.inl rfl)) (pgs_cons (pg_name (i := 4) sc_value_of.nd rfl (.inl rfl)) pgs_nil))) (pss_one (ps_if (pt_cmpR op_eq (pe_ix ix_tup (pv 3) pe_int (fun _ _ => rfl)) (pv 2) (nomark _)) (pss_one (ps_ret (pv 4))) pss_nil)))
      (pss_one (ps_ret pe_non)))
abbrev s_pair_faults : Stmt := topS 9
abbrev N_pair_faults : List Str := ["sheet", "may", "found", "at", "j", "k"]
theorem sc_pair_faults : FnScope N_pair_faults ["sheet", "may"] (defScope s_pair_faults) := ⟨rfl, rfl, rfl, by decide +kernel, rfl, by decide +kernel, by decide +kernel⟩
def t_pair_faults (K : PySem.W.Frag) (S_both_taken : Sp) (S_is_ask : Sp) : TS :=
  (tSeq (tAsg (tLst tNil) (gName 2))
  (tSeq (tFor (iEnum K (tCons (tVar 1) tNil)) (gTup K 2 (gCons (gName 3) (gCons (gName 4) gNil))) (tFor (iList K (tSl (rSlL K) (tVar 1) (tPart (tOp (rI0 fun i j => .int (i + j)) (tVar 3) (tC (.int 1)))) tNoPart)) (gName 5) (tSeq (tIfS (tAnd (tB (tCall S_both_taken [] E0 (tCons (tVar 0) (tCons (tVar 4) (tCons (tVar 5) tNil))))) (tNot (tAnd (tB (tCall S_is_ask [] E0 (tCons (tVar 0) (tCons (tVar 4) tNil)))) (tB (tCall S_is_ask [] E0 (tCons (tVar 0) (tCons (tVar 5) tNil))))))) (tDrop (tBM K "list" rAppend (tVar 2) (tCons (tTup (tCons (tC (.str "choice")) (tCons (tVar 4) (tCons (tVar 5) tNil)))) tNil))) tNext)
  (tIfS (tTest (tOp rEq (tOp (rIxT K) (tOp (rIxT K) (tOp (rIxT K) (tVar 0) (tC (.int 1))) (tVar 4)) (tC (.int 0))) (tOp (rIxT K) (tOp (rIxT K) (tOp (rIxT K) (tVar 0) (tC (.int 1))) (tVar 5)) (tC (.int 0))))) (tDrop (tBM K "list" rAppend (tVar 2) (tCons (tTup (tCons (tC (.str "twice")) (tCons (tVar 4) (tCons (tVar 5) tNil)))) tNil))) tNext))))
  (tRet (tVar 2))))
theorem b_pair_faults {P : Program} {w : World} {K : PySem.W.Frag} {mg : Str → Option Value} {base : Heap} {S_both_taken : Sp} {S_is_ask : Sp} (M : Blt mg) (c_both_taken : Cal P w K mg base 1 "both_taken" ["sheet", "j", "k"] S_both_taken) (c_is_ask : Cal P w K mg base 1 "is_ask" ["sheet", "k"] S_is_ask) (cdv : Value) (A : Around) (outer : List Env) (s : Shared) (H : Hp) (f : Addr)
    (hr : Room 1 (A.deeper (envOfC "pair_faults" (defScope s_pair_faults) s.heap.objs.size f cdv))) : PSs (cxOf CX0 P w K mg base N_pair_faults "pair_faults" (defScope s_pair_faults) f cdv A outer s H E0).nox (defBody s_pair_faults) (t_pair_faults K S_both_taken S_is_ask) := by
  have hu : (A.deeper (envOfC "pair_faults" (defScope s_pair_faults) s.heap.objs.size f cdv)).units + 64 < cLine := hr.units
  have hu65 : (A.deeper (envOfC "pair_faults" (defScope s_pair_faults) s.heap.objs.size f cdv)).units + 65 < cLine := by have := hr.un; omega
  have hu1 : (A.deeper (envOfC "pair_faults" (defScope s_pair_faults) s.heap.objs.size f cdv)).units + 1 < cLine := by have := hr.un; omega
  exact
      (pss_cons (ps_set (i := 2) sc_pair_faults.nd rfl (.inl rfl) (pe_lst pa_nil))
      (pss_cons (ps_for PassesOwn.never rfl (pi_enum rfl M.enumerate (pa_cons (pv 1) pa_nil)) (pg_tup rfl (pgs_cons (pg_name (i := 3) sc_pair_faults.nd rfl (.inl rfl)) (pgs_cons (pg_name (i := 4) sc_pair_faults.nd rfl (.inl rfl)) pgs_nil))) (pss_one (ps_for PassesOwn.never rfl (pi_list (pe_slice sl_list (pv 1) (po_some (pe_op op_add (pv 3) pe_int)) po_none)) (pg_name (i := 5) sc_pair_faults.nd rfl (.inl rfl)) (pss_cons (ps_if (PW.pt (pw_and (pt_val (pe_callC c_both_taken hr (by decide) rfl (pa_cons (pv 0) (pa_cons (pv 4) (pa_cons (pv 5) pa_nil))))) (pw_and1 (pt_not (PW.pt (pw_and (pt_val (pe_callC c_is_ask hr (by decide) rfl (pa_cons (pv 0) (pa_cons (pv 4) pa_nil)))) (pw_and1 (pt_val (pe_callC c_is_ask hr (by decide) rfl (pa_cons (pv 0) (pa_cons (pv 5) pa_nil))))))))))) (pss_one (ps_expr (pe_bm PySem.F.plainAttrs_list PySem.F.slot_list_append PySem.F.type_list_append mt_append (pv 2) (pa_cons (pe_tup (pa_cons pe_str (pa_cons (pv 4) (pa_cons (pv 5) pa_nil)))) pa_nil)))) pss_nil)
      (pss_one (ps_if (pt_cmpR op_eq (pe_ix ix_tup (pe_ix ix_tup (pe_ix ix_tup (pv 0) pe_int (fun _ _ => rfl)) (pv 4) (fun _ _ => rfl)) pe_int (fun _ _ => rfl)) (pe_ix ix_tup (pe_ix ix_tup (pe_ix ix_tup (pv 0) pe_int (fun _ _ => rfl)) (pv 5) (fun _ _ => rfl)) pe_int (fun _ _ => rfl)) (nomark _)) (pss_one (ps_expr (pe_bm PySem.F.plainAttrs_list PySem.F.slot_list_append PySem.F.type_list_append mt_append (pv 2) (pa_cons (pe_tup (pa_cons pe_str (pa_cons (pv 4) (pa_cons (pv 5) pa_nil)))) pa_nil)))) pss_nil))))))
      (pss_one (ps_ret (pv 2)))))
abbrev s_faults_at : Stmt := topS 10
abbrev N_faults_at : List Str := ["sheet", "stand", "may", "found", "k", "name", "way"]
theorem sc_faults_at : FnScope N_faults_at ["sheet", "stand"] (defScope s_faults_at) := ⟨rfl, rfl, rfl, by decide +kernel, rfl, by decide +kernel, by decide +kernel⟩
def t_faults_at (K : PySem.W.Frag) (S_may_turn : Sp) (S_pair_faults : Sp) (S_is_crowd : Sp) (S_value_of : Sp) : TS :=
  (tSeq (tAsg (tCall S_may_turn [] E0 (tCons (tVar 0) (tCons (tOp (rIxT K) (tVar 1) (tC (.int 0))) tNil))) (gName 2))
  (tSeq (tAsg (tCall S_pair_faults [] E0 (tCons (tVar 0) (tCons (tVar 2) tNil))) (gName 3))
  (tSeq (tFor (iList K (tVar 2)) (gName 4) (tSeq (tAsg (tOp (rIxT K) (tOp (rIxT K) (tVar 0) (tC (.int 1))) (tVar 4)) (gTup K 2 (gCons (gName 5) (gCons (gName 6) gNil))))
  (tSeq (tIfS (tB (tCall S_is_crowd [] E0 (tCons (tVar 0) (tCons (tOp (rIxT K) (tVar 1) (tC (.int 0))) (tCons (tVar 4) tNil))))) (tDrop (tBM K "list" rAppend (tVar 3) (tCons (tTup (tCons (tC (.str "crowd")) (tCons (tVar 4) tNil))) tNil))) tNext)
  (tIfS (tTest (tOp rEq (tCall S_value_of [] E0 (tCons (tVar 0) (tCons (tOp (rIxT K) (tVar 1) (tC (.int 1))) (tCons (tVar 5) tNil)))) (tVar 6))) (tDrop (tBM K "list" rAppend (tVar 3) (tCons (tTup (tCons (tC (.str "way")) (tCons (tVar 4) tNil))) tNil))) tNext))))
  (tSeq (tIfS (tTest (tOp (rEqD K) (tVar 2) (tLst tNil))) (tDrop (tBM K "list" rAppend (tVar 3) (tCons (tTup (tCons (tC (.str "end")) tNil)) tNil))) tNext)
  (tRet (tCB (rSortedD K) (tCons (tVar 3) tNil)))))))
theorem b_faults_at {P : Program} {w : World} {K : PySem.W.Frag} {mg : Str → Option Value} {base : Heap} {S_may_turn : Sp} {S_pair_faults : Sp} {S_is_crowd : Sp} {S_value_of : Sp} (M : Blt mg) (c_may_turn : Cal P w K mg base 1 "may_turn" ["sheet", "marks"] S_may_turn) (c_pair_faults : Cal P w K mg base 2 "pair_faults" ["sheet", "may"] S_pair_faults) (c_is_crowd : Cal P w K mg base 1 "is_crowd" ["sheet", "marks", "k"] S_is_crowd) (c_value_of : Cal P w K mg base 1 "value_of" ["sheet", "values", "name"] S_value_of) (cdv : Value) (A : Around) (outer : List Env) (s : Shared) (H : Hp) (f : Addr)
    (hr : Room 2 (A.deeper (envOfC "faults_at" (defScope s_faults_at) s.heap.objs.size f cdv))) : PSs (cxOf CX0 P w K mg base N_faults_at "faults_at" (defScope s_faults_at) f cdv A outer s H E0).nox (defBody s_faults_at) (t_faults_at K S_may_turn S_pair_faults S_is_crowd S_value_of) := by
  have hu : (A.deeper (envOfC "faults_at" (defScope s_faults_at) s.heap.objs.size f cdv)).units + 64 < cLine := hr.units
  have hu65 : (A.deeper (envOfC "faults_at" (defScope s_faults_at) s.heap.objs.size f cdv)).units + 65 < cLine := by have := hr.un; omega
  have hu1 : (A.deeper (envOfC "faults_at" (defScope s_faults_at) s.heap.objs.size f cdv)).units + 1 < cLine := by have := hr.un; omega
  exact
      (pss_cons (ps_set (i := 2) sc_faults_at.nd rfl (.inl rfl) (pe_callC c_may_turn hr (by decide) rfl (pa_cons (pv 0) (pa_cons (pe_ix ix_tup (pv 1) pe_int (fun _ _ => rfl)) pa_nil))))
      (pss_cons (ps_set (i := 3) sc_faults_at.nd rfl (.inl rfl) (pe_callC c_pair_faults hr (by decide) rfl (pa_cons (pv 0) (pa_cons (pv 2) pa_nil))))
      (pss_cons (ps_for PassesOwn.never rfl (pi_list (pv 2)) (pg_name (i := 4) sc_faults_at.nd rfl (.inl rfl)) (pss_cons (ps_asg (pe_ix ix_tup (pe_ix ix_tup (pv 0) pe_int (fun _ _ => rfl)) (pv 4) (fun _ _ => rfl)) (pg_tup rfl (pgs_cons (pg_name (i := 5) sc_faults_at.nd rfl (.inl rfl)) (pgs_cons (pg_name (i := 6) sc_faults_at.nd rfl (.inl rfl)) pgs_nil))))
      (pss_cons (ps_if (pt_val (pe_callC c_is_crowd hr (by decide) rfl (pa_cons (pv 0) (pa_cons (pe_ix ix_tup (pv 1) pe_int (fun _ _ => rfl)) (pa_cons (pv 4) pa_nil))))) (pss_one (ps_expr (pe_bm PySem.F.plainAttrs_list PySem.F.slot_list_append PySem.F.type_list_append mt_append (pv 3) (pa_cons (pe_tup (pa_cons pe_str (pa_cons (pv 4) pa_nil))) pa_nil)))) pss_nil)
      (pss_one (ps_if (pt_cmpR op_eq (pe_callC c_value_of hr (by decide) rfl (pa_cons (pv 0) (pa_cons (pe_ix ix_tup (pv 1) pe_int (fun _ _ => rfl)) (pa_cons (pv 5) pa_nil)))) (pv 6) (nomark _)) (pss_one (ps_expr (pe_bm PySem.F.plainAttrs_list PySem.F.slot_list_append PySem.F.type_list_append mt_append (pv 3) (pa_cons (pe_tup (pa_cons pe_str (pa_cons (pv 4) pa_nil))) pa_nil)))) pss_nil)))))
      (pss_cons (ps_if (pt_cmpR (op_eqD hu) (pv 2) (pe_lst pa_nil) (nomark _)) (pss_one (ps_expr (pe_bm PySem.F.plainAttrs_list PySem.F.slot_list_append PySem.F.type_list_append mt_append (pv 3) (pa_cons (pe_tup (pa_cons pe_str pa_nil)) pa_nil)))) pss_nil)
      (pss_one (ps_ret (pe_callB (cr_sortedD hu) rfl M.sorted boot_sorted (pa_cons (pv 3) pa_nil))))))))
abbrev s_sound : Stmt := topS 11
abbrev N_sound : List Str := ["sheet", "first", "rows", "waiting", "at", "stand", "faults", "k", "later"]
theorem sc_sound : FnScope N_sound ["sheet"] (defScope s_sound) := ⟨rfl, rfl, rfl, by decide +kernel, rfl, by decide +kernel, by decide +kernel⟩
def t_sound (P : Program) (w : World) (K : PySem.W.Frag) (S_first_of : Sp) (S_faults_at : Sp) (S_may_turn : Sp) (S_behind : Sp) : TS :=
  (tSeq (tAsg (tCall S_first_of [] E0 (tCons (tVar 0) tNil)) (gName 1))
  (tSeq (tAsg (tDispN P w (tVar 1) (tTup tNil)) (gName 2))
  (tSeq (tAsg (tLst (tCons (tVar 1) tNil)) (gName 3))
  (tSeq (tAsg (tC (.int 0)) (gName 4))
  (tSeq (tWhile (tTest (tOp (rI0 fun i j => .bl (decide (i < j))) (tVar 4) (tCB (rLenS K) (tCons (tVar 3) tNil)))) (tSeq (tAsg (tOp (rIxL K) (tVar 3) (tVar 4)) (gName 5))
  (tSeq (tAsg (tOp (rI0 fun i j => .int (i + j)) (tVar 4) (tC (.int 1))) (gName 4))
  (tSeq (tAsg (tCall S_faults_at [] E0 (tCons (tVar 0) (tCons (tVar 5) tNil))) (gName 6))
  (tSeq (tIfS (tTest (tOp (rNeD K) (tVar 6) (tLst tNil))) (tRet (tTup (tCons (tC (.str "fall")) (tCons (tOp (rGetN P w) (tVar 2) (tVar 5)) (tCons (tOp (rIxL K) (tVar 6) (tC (.int 0))) tNil))))) tNext)
  (tFor (iList K (tCall S_may_turn [] E0 (tCons (tVar 0) (tCons (tOp (rIxT K) (tVar 5) (tC (.int 0))) tNil)))) (gName 7) (tSeq (tAsg (tCall S_behind [] E0 (tCons (tVar 0) (tCons (tVar 5) (tCons (tVar 7) tNil)))) (gName 8))
  (tIfS (tTest (tOp (rNotInN P w) (tVar 8) (tVar 2))) (tSeq (tAsg (tOp (rCatA K) (tOp (rGetN P w) (tVar 2) (tVar 5)) (tTup (tCons (tVar 7) tNil))) (gSub (tVar 2) (tVar 8) (rSetN P w)))
  (tDrop (tBM K "list" rAppend (tVar 3) (tCons (tVar 8) tNil)))) tNext))))))))
  (tRet (tTup (tCons (tC (.str "sound")) (tCons (tCB (rTupS K) (tCons (tCB (rSortedD K) (tCons (tCB (rListN P w) (tCons (tVar 2) tNil)) tNil)) tNil)) tNil)))))))))
theorem b_sound {P : Program} {w : World} {K : PySem.W.Frag} {mg : Str → Option Value} {base : Heap} {S_first_of : Sp} {S_faults_at : Sp} {S_may_turn : Sp} {S_behind : Sp} (M : Blt mg) (c_first_of : Cal P w K mg base 1 "first_of" ["sheet"] S_first_of) (c_faults_at : Cal P w K mg base 3 "faults_at" ["sheet", "stand"] S_faults_at) (c_may_turn : Cal P w K mg base 1 "may_turn" ["sheet", "marks"] S_may_turn) (c_behind : Cal P w K mg base 1 "behind" ["sheet", "stand", "k"] S_behind) (cdv : Value) (A : Around) (outer : List Env) (s : Shared) (H : Hp) (f : Addr)
    (hr : Room 3 (A.deeper (envOfC "sound" (defScope s_sound) s.heap.objs.size f cdv))) : PSs (cxOf CX0 P w K mg base N_sound "sound" (defScope s_sound) f cdv A outer s H E0).nox (defBody s_sound) (t_sound P w K S_first_of S_faults_at S_may_turn S_behind) := by
  have hu : (A.deeper (envOfC "sound" (defScope s_sound) s.heap.objs.size f cdv)).units + 64 < cLine := hr.units
  have hu65 : (A.deeper (envOfC "sound" (defScope s_sound) s.heap.objs.size f cdv)).units + 65 < cLine := by have := hr.un; omega
  have hu1 : (A.deeper (envOfC "sound" (defScope s_sound) s.heap.objs.size f cdv)).units + 1 < cLine := by have := hr.un; omega
  exact
      (pss_cons (ps_set (i := 1) sc_sound.nd rfl (.inl rfl) (pe_callC c_first_of hr (by decide) rfl (pa_cons (pv 0) pa_nil)))
      (pss_cons (ps_set (i := 2) sc_sound.nd rfl (.inl rfl) (pe_dispN (pv 1) (pe_tup pa_nil) hu))
      (pss_cons (ps_set (i := 3) sc_sound.nd rfl (.inl rfl) (pe_lst (pa_cons (pv 1) pa_nil)))
      (pss_cons (ps_set (i := 4) sc_sound.nd rfl (.inl rfl) pe_int)
      (pss_cons (ps_while PassesOwn.never (pt_cmpR op_lt (pv 4) (pe_callB cr_len rfl M.len PySem.boot_len (pa_cons (pv 3) pa_nil)) (nomark _)) (pss_cons (ps_set (i := 5) sc_sound.nd rfl (.inl rfl) (pe_ix ix_list (pv 3) (pv 4) (fun _ _ => rfl)))
      (pss_cons (ps_set (i := 4) sc_sound.nd rfl (.inl rfl) (pe_op op_add (pv 4) pe_int))
      (pss_cons (ps_set (i := 6) sc_sound.nd rfl (.inl rfl) (pe_callC c_faults_at hr (by decide) rfl (pa_cons (pv 0) (pa_cons (pv 5) pa_nil))))
      (pss_cons (ps_if (pt_cmpR (op_neD hu) (pv 6) (pe_lst pa_nil) (nomark _)) (pss_one (ps_ret (pe_tup (pa_cons pe_str (pa_cons (pe_ix (ix_getN hu) (pv 2) (pv 5) (fun _ _ => rfl)) (pa_cons (pe_ix ix_list (pv 6) pe_int (fun _ _ => rfl)) pa_nil)))))) pss_nil)
      (pss_one (ps_for PassesOwn.never rfl (pi_list (pe_callC c_may_turn hr (by decide) rfl (pa_cons (pv 0) (pa_cons (pe_ix ix_tup (pv 5) pe_int (fun _ _ => rfl)) pa_nil)))) (pg_name (i := 7) sc_sound.nd rfl (.inl rfl)) (pss_cons (ps_set (i := 8) sc_sound.nd rfl (.inl rfl) (pe_callC c_behind hr (by decide) rfl (pa_cons (pv 0) (pa_cons (pv 5) (pa_cons (pv 7) pa_nil)))))
      (pss_one (ps_if (pt_cmpR (op_notInN hu) (pv 8) (pv 2) (by first | rfl | with_unfolding_all rfl)) (pss_cons (ps_asg (pe_op op_catA (pe_ix (ix_getN hu) (pv 2) (pv 5) (fun _ _ => rfl)) (pe_tup (pa_cons (pv 7) pa_nil))) (pg_sub (pv 2) (pv 8) (set_N hu) (fun _ => rfl)))
      (pss_one (ps_expr (pe_bm PySem.F.plainAttrs_list PySem.F.slot_list_append PySem.F.type_list_append mt_append (pv 3) (pa_cons (pv 8) pa_nil))))) pss_nil))))))))))
      (pss_one (ps_ret (pe_tup (pa_cons pe_str (pa_cons (pe_callTy cr_tup rfl M.tuple boot_tuple (pa_cons (pe_callB (cr_sortedD hu) rfl M.sorted boot_sorted (pa_cons (pe_callTy (cr_listN rfl) rfl M.list boot_list (pa_cons (pv 2) pa_nil)) pa_nil)) pa_nil)) pa_nil))))))))))
abbrev s_law_pen : Stmt := topS 13
abbrev N_law_pen : List Str := ["_law_script"]
theorem sc_law_pen : FnScope N_law_pen ["_law_script"] (defScope s_law_pen) := ⟨rfl, rfl, rfl, by decide +kernel, rfl, by decide +kernel, by decide +kernel⟩
def t_law_pen (K : PySem.W.Frag) : TS :=
  (tRet (tLst (tCons (tCB (rListS K) (tCons (tSl (rSlL K) (tVar 0) tNoPart (tPart (tC (.int 63)))) tNil)) (tCons (tC (.int 0)) (tCons (tC (.int 0)) tNil)))))
theorem b_law_pen {P : Program} {w : World} {K : PySem.W.Frag} {mg : Str → Option Value} {base : Heap} (M : Blt mg) (cdv : Value) (A : Around) (outer : List Env) (s : Shared) (H : Hp) (f : Addr)
    (hr : Room 0 (A.deeper (envOfC "_law_pen" (defScope s_law_pen) s.heap.objs.size f cdv))) : PSs (cxOf CX0 P w K mg base N_law_pen "_law_pen" (defScope s_law_pen) f cdv A outer s H E0).nox (defBody s_law_pen) (t_law_pen K) := by
  have hu : (A.deeper (envOfC "_law_pen" (defScope s_law_pen) s.heap.objs.size f cdv)).units + 64 < cLine := hr.units
  have hu65 : (A.deeper (envOfC "_law_pen" (defScope s_law_pen) s.heap.objs.size f cdv)).units + 65 < cLine := by have := hr.un; omega
  have hu1 : (A.deeper (envOfC "_law_pen" (defScope s_law_pen) s.heap.objs.size f cdv)).units + 1 < cLine := by have := hr.un; omega
  exact
      (pss_one (ps_ret (pe_lst (pa_cons (pe_callTy cr_list rfl M.list boot_list (pa_cons (pe_slice sl_list (pv 0) po_none (po_some pe_int)) pa_nil)) (pa_cons pe_int (pa_cons pe_int pa_nil))))))
abbrev s_law_draw : Stmt := topS 14
abbrev N_law_draw : List Str := ["_law_pen_here", "_law_many", "_law_digit", "_law_at", "_law_cell", "_law_number"]
theorem sc_law_draw : FnScope N_law_draw ["_law_pen_here", "_law_many"] (defScope s_law_draw) := ⟨rfl, rfl, rfl, by decide +kernel, rfl, by decide +kernel, by decide +kernel⟩
def t_law_draw (K : PySem.W.Frag) : TS :=
  (tSeq (tIfS (tTest (tOp (rI0 fun i j => .bl (decide (j < i))) (tOp (rIxL K) (tVar 0) (tC (.int 2))) (tC (.int 0)))) (tSeq (tAsg (tOp (rI (fun _ j => 0 < j) fun i j => .int (i % j)) (tOp (rIxL K) (tVar 0) (tC (.int 2))) (tVar 1)) (gName 2))
  (tSeq (tAsg (tOp (rI CDiv fun i j => .int (i / j)) (tOp (rIxL K) (tVar 0) (tC (.int 2))) (tVar 1)) (gSub (tVar 0) (tC (.int 2)) L2.rSetL))
  (tRet (tVar 2)))) tNext)
  (tSeq (tAsg (tOp (rIxL K) (tVar 0) (tC (.int 1))) (gName 3))
  (tSeq (tAsg (tOp (rI0 fun i j => .int (i + j)) (tVar 3) (tC (.int 1))) (gSub (tVar 0) (tC (.int 1)) L2.rSetL))
  (tSeq (tAsg (tOp (rI0 fun i j => .int (i + j)) (tOp (rI CMul fun i j => .int (i * j)) (tC (.int 70001)) (tVar 3)) (tC (.int 43))) (gName 4))
  (tSeq (tIfS (tTest (tOp (rNeD K) (tOp (rIxL K) (tVar 0) (tC (.int 0))) (tLst tNil))) (tAsg (tOp (rIxL K) (tOp (rIxL K) (tVar 0) (tC (.int 0))) (tOp (rI (fun _ j => 0 < j) fun i j => .int (i % j)) (tVar 3) (tCB (rLenS K) (tCons (tOp (rIxL K) (tVar 0) (tC (.int 0))) tNil)))) (gName 4)) tNext)
  (tSeq (tIfS (tAnd (tTest (tOp (rI0 fun i j => .bl (decide (i < j))) (tVar 3) (tCB (rLenS K) (tCons (tOp (rIxL K) (tVar 0) (tC (.int 0))) tNil)))) (tTest (tOp (rI0 fun i j => .bl (decide (j ≤ i))) (tCB rAbs (tCons (tVar 4) tNil)) (tOp (rI CPow fun i j => .int (i ^ j.toNat)) (tC (.int 10)) (tC (.int 18)))))) (tSeq (tAsg (tOp (rI CDiv fun i j => .int (i / j)) (tCB rAbs (tCons (tVar 4) tNil)) (tVar 1)) (gSub (tVar 0) (tC (.int 2)) L2.rSetL))
  (tRet (tOp (rI (fun _ j => 0 < j) fun i j => .int (i % j)) (tCB rAbs (tCons (tVar 4) tNil)) (tVar 1)))) tNext)
  (tSeq (tAsg (tOp (rI (fun _ j => 0 < j) fun i j => .int (i % j)) (tOp (rI CPow fun i j => .int (i ^ j.toNat)) (tOp (rI0 fun i j => .int (i + j)) (tOp (rI0 fun i j => .int (i + j)) (tOp (rI (fun _ j => 0 < j) fun i j => .int (i % j)) (tVar 4) (tC (.int 2147483629))) (tOp (rI CMul fun i j => .int (i * j)) (tC (.int 40009)) (tVar 3))) (tC (.int 17))) (tC (.int 5))) (tC (.int 2147483647))) (gName 5))
  (tSeq (tAsg (tOp (rI (fun _ j => 0 < j) fun i j => .int (i % j)) (tOp (rI CPow fun i j => .int (i ^ j.toNat)) (tOp (rI0 fun i j => .int (i + j)) (tOp (rI CMul fun i j => .int (i * j)) (tVar 5) (tOp (rI0 fun i j => .int (i + j)) (tOp (rI CMul fun i j => .int (i * j)) (tC (.int 2)) (tVar 3)) (tC (.int 3)))) (tC (.int 69621))) (tC (.int 3))) (tC (.int 2147483587))) (gName 5))
  (tRet (tOp (rI (fun _ j => 0 < j) fun i j => .int (i % j)) (tOp (rI CDiv fun i j => .int (i / j)) (tVar 5) (tC (.int 32))) (tVar 1)))))))))))
theorem b_law_draw {P : Program} {w : World} {K : PySem.W.Frag} {mg : Str → Option Value} {base : Heap} (M : Blt mg) (cdv : Value) (A : Around) (outer : List Env) (s : Shared) (H : Hp) (f : Addr)
    (hr : Room 0 (A.deeper (envOfC "_law_draw" (defScope s_law_draw) s.heap.objs.size f cdv))) : PSs (cxOf CX0 P w K mg base N_law_draw "_law_draw" (defScope s_law_draw) f cdv A outer s H E0).nox (defBody s_law_draw) (t_law_draw K) := by
  have hu : (A.deeper (envOfC "_law_draw" (defScope s_law_draw) s.heap.objs.size f cdv)).units + 64 < cLine := hr.units
  have hu65 : (A.deeper (envOfC "_law_draw" (defScope s_law_draw) s.heap.objs.size f cdv)).units + 65 < cLine := by have := hr.un; omega
  have hu1 : (A.deeper (envOfC "_law_draw" (defScope s_law_draw) s.heap.objs.size f cdv)).units + 1 < cLine := by have := hr.un; omega
  exact
      (pss_cons (ps_if (pt_cmpR op_gt (pe_ix ix_list (pv 0) pe_int (fun _ _ => rfl)) pe_int (nomark _)) (pss_cons (ps_set (i := 2) sc_law_draw.nd rfl (.inl rfl) (pe_op op_mod (pe_ix ix_list (pv 0) pe_int (fun _ _ => rfl)) (pv 1)))
      (pss_cons (ps_asg (pe_op op_fdiv (pe_ix ix_list (pv 0) pe_int (fun _ _ => rfl)) (pv 1)) (pg_sub (pv 0) pe_int set_list (fun _ => rfl)))
      (pss_one (ps_ret (pv 2))))) pss_nil)
      (pss_cons (ps_set (i := 3) sc_law_draw.nd rfl (.inl rfl) (pe_ix ix_list (pv 0) pe_int (fun _ _ => rfl)))
      (pss_cons (ps_asg (pe_op op_add (pv 3) pe_int) (pg_sub (pv 0) pe_int set_list (fun _ => rfl)))
      (pss_cons (ps_set (i := 4) sc_law_draw.nd rfl (.inl rfl) (pe_op op_add (pe_op op_mul pe_int (pv 3)) pe_int))
      (pss_cons (ps_if (pt_cmpR (op_neD hu) (pe_ix ix_list (pv 0) pe_int (fun _ _ => rfl)) (pe_lst pa_nil) (nomark _)) (pss_one (ps_set (i := 4) sc_law_draw.nd rfl (.inl rfl) (pe_ix ix_list (pe_ix ix_list (pv 0) pe_int (fun _ _ => rfl)) (pe_op op_mod (pv 3) (pe_callB cr_len rfl M.len PySem.boot_len (pa_cons (pe_ix ix_list (pv 0) pe_int (fun _ _ => rfl)) pa_nil))) (fun _ _ => rfl)))) pss_nil)
      (pss_cons (ps_if (PW.pt (pw_and (pt_cmpR op_lt (pv 3) (pe_callB cr_len rfl M.len PySem.boot_len (pa_cons (pe_ix ix_list (pv 0) pe_int (fun _ _ => rfl)) pa_nil)) (nomark _)) (pw_and1 (pt_cmpR op_ge (pe_callB cr_abs rfl M.abs (by decide +kernel) (pa_cons (pv 4) pa_nil)) (pe_op op_pow pe_int pe_int) (nomark _))))) (pss_cons (ps_asg (pe_op op_fdiv (pe_callB cr_abs rfl M.abs (by decide +kernel) (pa_cons (pv 4) pa_nil)) (pv 1)) (pg_sub (pv 0) pe_int set_list (fun _ => rfl)))
      (pss_one (ps_ret (pe_op op_mod (pe_callB cr_abs rfl M.abs (by decide +kernel) (pa_cons (pv 4) pa_nil)) (pv 1))))) pss_nil)
      (pss_cons (ps_set (i := 5) sc_law_draw.nd rfl (.inl rfl) (pe_op op_mod (pe_op op_pow (pe_op op_add (pe_op op_add (pe_op op_mod (pv 4) pe_int) (pe_op op_mul pe_int (pv 3))) pe_int) pe_int) pe_int))
      (pss_cons (ps_set (i := 5) sc_law_draw.nd rfl (.inl rfl) (pe_op op_mod (pe_op op_pow (pe_op op_add (pe_op op_mul (pv 5) (pe_op op_add (pe_op op_mul pe_int (pv 3)) pe_int)) pe_int) pe_int) pe_int))
      (pss_one (ps_ret (pe_op op_mod (pe_op op_fdiv (pv 5) pe_int) (pv 1))))))))))))
abbrev s_law_names : Stmt := topS 15
abbrev N_law_names : List Str := ["_law_pen_here", "_law_many", "_law_letters", "_law_start", "_law_found", "_law_k", "_law_size", "_law_tail", "_law_j"]
theorem sc_law_names : FnScope N_law_names ["_law_pen_here", "_law_many"] (defScope s_law_names) := ⟨rfl, rfl, rfl, by decide +kernel, rfl, by decide +kernel, by decide +kernel⟩
def t_law_names (K : PySem.W.Frag) (S_law_draw : Sp) : TS :=
  (tSeq (tAsg (tC (.str "abcdefghijklmnopqrstuvwxyz")) (gName 2))
  (tSeq (tAsg (tCall S_law_draw [] E0 (tCons (tVar 0) (tCons (tC (.int 26)) tNil))) (gName 3))
  (tSeq (tAsg (tLst tNil) (gName 4))
  (tSeq (tFor (iRng1 (tCons (tVar 1) tNil)) (gName 5) (tSeq (tAsg (tCall S_law_draw [] E0 (tCons (tVar 0) (tCons (tC (.int 8)) tNil))) (gName 6))
  (tSeq (tAsg (tLc (iRng1 (tCons (tVar 6) tNil)) (gName 8) tYes (tOp rIxS (tVar 2) (tCall S_law_draw [] E0 (tCons (tVar 0) (tCons (tC (.int 26)) tNil)))) [8]) (gName 7))
  (tDrop (tBM K "list" rAppend (tVar 4) (tCons (tM1 (rJoin K) (tC (.str "")) (tOp rCat (tLst (tCons (tOp rIxS (tVar 2) (tOp (rI (fun _ j => 0 < j) fun i j => .int (i % j)) (tOp (rI0 fun i j => .int (i + j)) (tVar 3) (tOp (rI CMul fun i j => .int (i * j)) (tC (.int 5)) (tVar 5))) (tC (.int 26)))) tNil)) (tVar 7))) tNil))))))
  (tRet (tCB (rSortedD K) (tCons (tVar 4) tNil)))))))
theorem b_law_names {P : Program} {w : World} {K : PySem.W.Frag} {mg : Str → Option Value} {base : Heap} {S_law_draw : Sp} (M : Blt mg) (c_law_draw : Cal P w K mg base 1 "_law_draw" ["_law_pen_here", "_law_many"] S_law_draw) (cdv : Value) (A : Around) (outer : List Env) (s : Shared) (H : Hp) (f : Addr)
    (hr : Room 1 (A.deeper (envOfC "_law_names" (defScope s_law_names) s.heap.objs.size f cdv))) : PSs (cxOf CX0 P w K mg base N_law_names "_law_names" (defScope s_law_names) f cdv A outer s H E0).nox (defBody s_law_names) (t_law_names K S_law_draw) := by
  have hu : (A.deeper (envOfC "_law_names" (defScope s_law_names) s.heap.objs.size f cdv)).units + 64 < cLine := hr.units
  have hu65 : (A.deeper (envOfC "_law_names" (defScope s_law_names) s.heap.objs.size f cdv)).units + 65 < cLine := by have := hr.un; omega
  have hu1 : (A.deeper (envOfC "_law_names" (defScope s_law_names) s.heap.objs.size f cdv)).units + 1 < cLine := by have := hr.un; omega
  exact
      (pss_cons (ps_set (i := 2) sc_law_names.nd rfl (.inr rfl) pe_str)
      (pss_cons (ps_set (i := 3) sc_law_names.nd rfl (.inl rfl) (pe_callC c_law_draw hr (by decide) rfl (pa_cons (pv 0) (pa_cons pe_int pa_nil))))
      (pss_cons (ps_set (i := 4) sc_law_names.nd rfl (.inl rfl) (pe_lst pa_nil))
      (pss_cons (ps_for PassesOwn.never rfl (pi_range1 rfl M.range (pa_cons (pv 1) pa_nil)) (pg_name (i := 5) sc_law_names.nd rfl (.inl rfl)) (pss_cons (ps_set (i := 6) sc_law_names.nd rfl (.inl rfl) (pe_callC c_law_draw hr (by decide) rfl (pa_cons (pv 0) (pa_cons pe_int pa_nil))))
      (pss_cons (ps_setLc (i := 7) (own := [("_law_j", 8)]) rfl sc_law_names.nd rfl rfl rfl (pi_range1 rfl M.range (pa_cons (pv 6) pa_nil)) (blkOk_by (N := N_law_names) (sc := defScope s_law_names) (by decide +kernel)) (fun _ _ _ _ _ => (pg_name (i := 8) sc_law_names.nd rfl (.inl rfl))) (fun _ _ _ _ _ => pts_nil) (fun _ _ _ _ _ => (pe_ix ix_str (pv 2) (pe_callC c_law_draw hr (by decide) rfl (pa_cons (pv 0) (pa_cons pe_int pa_nil))) (fun _ _ => rfl))))
      (pss_one (ps_expr (pe_bm PySem.F.plainAttrs_list PySem.F.slot_list_append PySem.F.type_list_append mt_append (pv 4) (pa_cons (pe_m1 PySem.F.slot_str_join PySem.F.type_str_join mt_joins pe_str (pe_op op_cat (pe_lst (pa_cons (pe_ix ix_str (pv 2) (pe_op op_mod (pe_op op_add (pv 3) (pe_op op_mul pe_int (pv 5))) pe_int) (fun _ _ => rfl)) pa_nil)) (pv 7))) pa_nil)))))))
      (pss_one (ps_ret (pe_callB (cr_sortedD hu) rfl M.sorted boot_sorted (pa_cons (pv 4) pa_nil))))))))
abbrev s_law_word : Stmt := topS 16
abbrev N_law_word : List Str := ["_law_pen_here", "_law_names_here", "_law_rounds", "_law_wires", "_law_left", "_law_name", "_law_many", "_law_value", "_law_turns", "_law_at", "_law_some"]
theorem sc_law_word : FnScope N_law_word ["_law_pen_here", "_law_names_here", "_law_rounds"] (defScope s_law_word) := ⟨rfl, rfl, rfl, by decide +kernel, rfl, by decide +kernel, by decide +kernel⟩
def t_law_word (K : PySem.W.Frag) (S_law_draw : Sp) : TS :=
  (tSeq (tAsg (tLst tNil) (gName 3))
  (tSeq (tAsg (tLst tNil) (gName 4))
  (tSeq (tFor (RZ.iZipA K (tCons (tVar 1) (tCons (tVar 2) tNil))) (gTup K 2 (gCons (gName 5) (gCons (gName 6) gNil))) (tSeq (tAsg (tCall S_law_draw [] E0 (tCons (tVar 0) (tCons (tC (.int 2)) tNil))) (gName 7))
  (tSeq (tDrop (tBM K "list" rAppend (tVar 3) (tCons (tTup (tCons (tVar 5) (tCons (tOp (rIxL K) (tLst (tCons (tC (.str "ask")) (tCons (tC (.str "answer")) tNil))) (tCall S_law_draw [] E0 (tCons (tVar 0) (tCons (tC (.int 2)) tNil)))) (tCons (tVar 7) tNil)))) tNil)))
  (tDrop (tBM K "list" rAppend (tVar 4) (tCons (tOp rRep (tLst (tCons (tTup (tCons (tVar 5) (tCons (tOp (rI0 fun i j => .int (i - j)) (tC (.int 1)) (tVar 7)) tNil))) (tCons (tTup (tCons (tVar 5) (tCons (tVar 7) tNil))) tNil))) (tVar 6)) tNil))))))
  (tSeq (tAsg (tLst tNil) (gName 8))
  (tSeq (tWhile (tTest (tOp (rNeD K) (tVar 4) (tLst tNil))) (tSeq (tAsg (tCall S_law_draw [] E0 (tCons (tVar 0) (tCons (tCB (rLenS K) (tCons (tVar 4) tNil)) tNil))) (gName 9))
  (tSeq (tDrop (tBM K "list" rAppend (tVar 8) (tCons (tOp (rIxL K) (tOp (rIxL K) (tVar 4) (tVar 9)) (tC (.int 0))) tNil)))
  (tSeq (tAsg (tSl (rSlL K) (tOp (rIxL K) (tVar 4) (tVar 9)) (tPart (tC (.int 1))) tNoPart) (gSub (tVar 4) (tVar 9) L2.rSetL))
  (tAsg (tLc (iList K (tVar 4)) (gName 10) (tTest (tOp (rNeD K) (tVar 10) (tLst tNil))) (tVar 10) [10]) (gName 4))))))
  (tRet (tTup (tCons (tCB (rTupS K) (tCons (tVar 3) tNil)) (tCons (tCB (rTupS K) (tCons (tVar 8) tNil)) tNil)))))))))
theorem b_law_word {P : Program} {w : World} {K : PySem.W.Frag} {mg : Str → Option Value} {base : Heap} {S_law_draw : Sp} (M : Blt mg) (c_law_draw : Cal P w K mg base 1 "_law_draw" ["_law_pen_here", "_law_many"] S_law_draw) (cdv : Value) (A : Around) (outer : List Env) (s : Shared) (H : Hp) (f : Addr)
    (hr : Room 1 (A.deeper (envOfC "_law_word" (defScope s_law_word) s.heap.objs.size f cdv))) : PSs (cxOf CX0 P w K mg base N_law_word "_law_word" (defScope s_law_word) f cdv A outer s H E0).nox (defBody s_law_word) (t_law_word K S_law_draw) := by
  have hu : (A.deeper (envOfC "_law_word" (defScope s_law_word) s.heap.objs.size f cdv)).units + 64 < cLine := hr.units
  have hu65 : (A.deeper (envOfC "_law_word" (defScope s_law_word) s.heap.objs.size f cdv)).units + 65 < cLine := by have := hr.un; omega
  have hu1 : (A.deeper (envOfC "_law_word" (defScope s_law_word) s.heap.objs.size f cdv)).units + 1 < cLine := by have := hr.un; omega
  exact
      (pss_cons (ps_set (i := 3) sc_law_word.nd rfl (.inl rfl) (pe_lst pa_nil))
      (pss_cons (ps_set (i := 4) sc_law_word.nd rfl (.inl rfl) (pe_lst pa_nil))
      (pss_cons (ps_for PassesOwn.never rfl (RZ.pi_zipA rfl M.zip (pa_cons (pv 1) (pa_cons (pv 2) pa_nil))) (pg_tup rfl (pgs_cons (pg_name (i := 5) sc_law_word.nd rfl (.inl rfl)) (pgs_cons (pg_name (i := 6) sc_law_word.nd rfl (.inl rfl)) pgs_nil))) (pss_cons (ps_set (i := 7) sc_law_word.nd rfl (.inl rfl) (pe_callC c_law_draw hr (by decide) rfl (pa_cons (pv 0) (pa_cons pe_int pa_nil))))
      (pss_cons (ps_expr (pe_bm PySem.F.plainAttrs_list PySem.F.slot_list_append PySem.F.type_list_append mt_append (pv 3) (pa_cons (pe_tup (pa_cons (pv 5) (pa_cons (pe_ix ix_list (pe_lst (pa_cons pe_str (pa_cons pe_str pa_nil))) (pe_callC c_law_draw hr (by decide) rfl (pa_cons (pv 0) (pa_cons pe_int pa_nil))) (fun _ _ => rfl)) (pa_cons (pv 7) pa_nil)))) pa_nil)))
      (pss_one (ps_expr (pe_bm PySem.F.plainAttrs_list PySem.F.slot_list_append PySem.F.type_list_append mt_append (pv 4) (pa_cons (pe_op op_rep (pe_lst (pa_cons (pe_tup (pa_cons (pv 5) (pa_cons (pe_op op_sub pe_int (pv 7)) pa_nil))) (pa_cons (pe_tup (pa_cons (pv 5) (pa_cons (pv 7) pa_nil))) pa_nil))) (pv 6)) pa_nil)))))))
      (pss_cons (ps_set (i := 8) sc_law_word.nd rfl (.inl rfl) (pe_lst pa_nil))
      (pss_cons (ps_while PassesOwn.never (pt_cmpR (op_neD hu) (pv 4) (pe_lst pa_nil) (nomark _)) (pss_cons (ps_set (i := 9) sc_law_word.nd rfl (.inl rfl) (pe_callC c_law_draw hr (by decide) rfl (pa_cons (pv 0) (pa_cons (pe_callB cr_len rfl M.len PySem.boot_len (pa_cons (pv 4) pa_nil)) pa_nil))))
      (pss_cons (ps_expr (pe_bm PySem.F.plainAttrs_list PySem.F.slot_list_append PySem.F.type_list_append mt_append (pv 8) (pa_cons (pe_ix ix_list (pe_ix ix_list (pv 4) (pv 9) (fun _ _ => rfl)) pe_int (fun _ _ => rfl)) pa_nil)))
      (pss_cons (ps_asg (pe_slice sl_list (pe_ix ix_list (pv 4) (pv 9) (fun _ _ => rfl)) (po_some pe_int) po_none) (pg_sub (pv 4) (pv 9) set_list (fun _ => rfl)))
      (pss_one (ps_setLc (i := 4) (own := [("_law_some", 10)]) rfl sc_law_word.nd rfl rfl rfl (pi_list (pv 4)) (blkOk_by (N := N_law_word) (sc := defScope s_law_word) (by decide +kernel)) (fun _ _ _ _ _ => (pg_name (i := 10) sc_law_word.nd rfl (.inl rfl))) (fun _ _ _ _ _ => (pts_one (pt_cmpR (op_neD hu) (pv 10) (pe_lst pa_nil) (nomark _)))) (fun _ _ _ _ _ => (pv 10))))))))
      (pss_one (ps_ret (pe_tup (pa_cons (pe_callTy cr_tup rfl M.tuple boot_tuple (pa_cons (pv 3) pa_nil)) (pa_cons (pe_callTy cr_tup rfl M.tuple boot_tuple (pa_cons (pv 8) pa_nil)) pa_nil))))))))))
abbrev s_law_chains : Stmt := topS 17
abbrev N_law_chains : List Str := ["_law_turns", "_law_spots", "_law_name", "_law_own", "_law_at", "_law_turn", "_law_k"]
theorem sc_law_chains : FnScope N_law_chains ["_law_turns"] (defScope s_law_chains) := ⟨rfl, rfl, rfl, by decide +kernel, rfl, by decide +kernel, by decide +kernel⟩
def t_law_chains (P : Program) (w : World) (K : PySem.W.Frag) : TS :=
  (tSeq (tAsg (tLst tNil) (gName 1))
  (tSeq (tFor (iList K (tCB (rSortSetS P w) (tCons (tCB (rSetL P w K) (tCons (tLc (iTup K (tVar 0)) (gName 5) tYes (tOp (rIxT K) (tVar 5) (tC (.int 0))) [5]) tNil)) tNil))) (gName 2) (tSeq (tAsg (tLc (iRng1 (tCons (tCB (rLenS K) (tCons (tVar 0) tNil)) tNil)) (gName 6) (tTest (tOp rEq (tOp (rIxT K) (tOp (rIxT K) (tVar 0) (tVar 6)) (tC (.int 0))) (tVar 2))) (tVar 6) [6]) (gName 3))
  (tFor (iRng1 (tCons (tCB (rLenS K) (tCons (tVar 3) tNil)) tNil)) (gName 4) (tDrop (tBM K "list" rAppend (tVar 1) (tCons (tTup (tCons (tTup (tCons (tOp (rIxL K) (tVar 3) (tOp (rI0 fun i j => .int (i - j)) (tVar 4) (tC (.int 1)))) tNil)) (tCons (tTup (tCons (tOp (rIxL K) (tVar 3) (tVar 4)) tNil)) (tCons (tCB rInt1 (tCons (tOp rEq (tVar 4) (tC (.int 0))) tNil)) tNil)))) tNil))))))
  (tRet (tVar 1))))
theorem b_law_chains {P : Program} {w : World} {K : PySem.W.Frag} {mg : Str → Option Value} {base : Heap} (M : Blt mg) (cdv : Value) (A : Around) (outer : List Env) (s : Shared) (H : Hp) (f : Addr)
    (hr : Room 0 (A.deeper (envOfC "_law_chains" (defScope s_law_chains) s.heap.objs.size f cdv))) : PSs (cxOf CX0 P w K mg base N_law_chains "_law_chains" (defScope s_law_chains) f cdv A outer s H E0).nox (defBody s_law_chains) (t_law_chains P w K) := by
  have hu : (A.deeper (envOfC "_law_chains" (defScope s_law_chains) s.heap.objs.size f cdv)).units + 64 < cLine := hr.units
  have hu65 : (A.deeper (envOfC "_law_chains" (defScope s_law_chains) s.heap.objs.size f cdv)).units + 65 < cLine := by have := hr.un; omega
  have hu1 : (A.deeper (envOfC "_law_chains" (defScope s_law_chains) s.heap.objs.size f cdv)).units + 1 < cLine := by have := hr.un; omega
  exact
      (pss_cons (ps_set (i := 1) sc_law_chains.nd rfl (.inl rfl) (pe_lst pa_nil))
      (pss_cons (ps_for PassesOwn.never rfl (pi_list (pe_callB (cr_sortSetS rfl hu) rfl M.sorted boot_sorted (pa_cons (pe_callTy (cr_setL rfl) rfl M.set boot_set (pa_cons (pe_lc (own := [("_law_turn", 5)]) rfl sc_law_chains.nd (pi_tup (pv 0)) (blkOk_by (N := N_law_chains) (sc := defScope s_law_chains) (by decide +kernel)) (fun _ _ _ _ _ => (pg_name (i := 5) sc_law_chains.nd rfl (.inl rfl))) (fun _ _ _ _ _ => pts_nil) (fun _ _ _ _ _ => (pe_ix ix_tup (pv 5) pe_int (fun _ _ => rfl)))) pa_nil)) pa_nil))) (pg_name (i := 2) sc_law_chains.nd rfl (.inr rfl)) (pss_cons (ps_setLc (i := 3) (own := [("_law_k", 6)]) rfl sc_law_chains.nd rfl rfl rfl (pi_range1 rfl M.range (pa_cons (pe_callB cr_len rfl M.len PySem.boot_len (pa_cons (pv 0) pa_nil)) pa_nil)) (blkOk_by (N := N_law_chains) (sc := defScope s_law_chains) (by decide +kernel)) (fun _ _ _ _ _ => (pg_name (i := 6) sc_law_chains.nd rfl (.inl rfl))) (fun _ _ _ _ _ => (pts_one (pt_cmpR op_eq (pe_ix ix_tup (pe_ix ix_tup (pv 0) (pv 6) (fun _ _ => rfl)) pe_int (fun _ _ => rfl)) (pv 2) (nomark _)))) (fun _ _ _ _ _ => (pv 6)))
      (pss_one (ps_for PassesOwn.never rfl (pi_range1 rfl M.range (pa_cons (pe_callB cr_len rfl M.len PySem.boot_len (pa_cons (pv 3) pa_nil)) pa_nil)) (pg_name (i := 4) sc_law_chains.nd rfl (.inl rfl)) (pss_one (ps_expr (pe_bm PySem.F.plainAttrs_list PySem.F.slot_list_append PySem.F.type_list_append mt_append (pv 1) (pa_cons (pe_tup (pa_cons (pe_tup (pa_cons (pe_ix ix_list (pv 3) (pe_op op_sub (pv 4) pe_int) (fun _ _ => rfl)) pa_nil)) (pa_cons (pe_tup (pa_cons (pe_ix ix_list (pv 3) (pv 4) (fun _ _ => rfl)) pa_nil)) (pa_cons (pe_callTy cr_int1 rfl M.int boot_int (pa_cons (pe_cmpR op_eq (pv 4) pe_int (nomark _)) pa_nil)) pa_nil)))) pa_nil))))))))
      (pss_one (ps_ret (pv 1)))))
abbrev s_law_joined : Stmt := topS 18
abbrev N_law_joined : List Str := ["_law_pen_here", "_law_turns", "_law_many", "_law_spots", "_law_k", "_law_j", "_law_i"]
theorem sc_law_joined : FnScope N_law_joined ["_law_pen_here", "_law_turns", "_law_many"] (defScope s_law_joined) := ⟨rfl, rfl, rfl, by decide +kernel, rfl, by decide +kernel, by decide +kernel⟩
def t_law_joined (K : PySem.W.Frag) (S_law_draw : Sp) : TS :=
  (tSeq (tAsg (tLst tNil) (gName 3))
  (tSeq (tFor (iRng1 (tCons (tVar 2) tNil)) (gName 4) (tSeq (tAsg (tCall S_law_draw [] E0 (tCons (tVar 0) (tCons (tCB (rLenS K) (tCons (tVar 1) tNil)) tNil))) (gName 5))
  (tSeq (tAsg (tCall S_law_draw [] E0 (tCons (tVar 0) (tCons (tCB (rLenS K) (tCons (tVar 1) tNil)) tNil))) (gName 6))
  (tIfS (tTest (tOp rNe (tOp (rIxT K) (tOp (rIxT K) (tVar 1) (tVar 6)) (tC (.int 0))) (tOp (rIxT K) (tOp (rIxT K) (tVar 1) (tVar 5)) (tC (.int 0))))) (tDrop (tBM K "list" rExtend (tVar 3) (tCons (tLst (tCons (tTup (tCons (tTup (tCons (tCB rMin2 (tCons (tVar 6) (tCons (tVar 5) tNil))) tNil)) (tCons (tTup (tCons (tCB rMax2 (tCons (tVar 6) (tCons (tVar 5) tNil))) tNil)) (tCons (tC (.int 0)) tNil)))) (tCons (tTup (tCons (tTup (tCons (tCB rMax2 (tCons (tVar 6) (tCons (tVar 5) tNil))) tNil)) (tCons (tTup (tCons (tCB rMin2 (tCons (tVar 6) (tCons (tVar 5) tNil))) tNil)) (tCons (tC (.int 1)) tNil)))) tNil))) tNil))) tNext))))
  (tRet (tVar 3))))
theorem b_law_joined {P : Program} {w : World} {K : PySem.W.Frag} {mg : Str → Option Value} {base : Heap} {S_law_draw : Sp} (M : Blt mg) (c_law_draw : Cal P w K mg base 1 "_law_draw" ["_law_pen_here", "_law_many"] S_law_draw) (cdv : Value) (A : Around) (outer : List Env) (s : Shared) (H : Hp) (f : Addr)
    (hr : Room 1 (A.deeper (envOfC "_law_joined" (defScope s_law_joined) s.heap.objs.size f cdv))) : PSs (cxOf CX0 P w K mg base N_law_joined "_law_joined" (defScope s_law_joined) f cdv A outer s H E0).nox (defBody s_law_joined) (t_law_joined K S_law_draw) := by
  have hu : (A.deeper (envOfC "_law_joined" (defScope s_law_joined) s.heap.objs.size f cdv)).units + 64 < cLine := hr.units
  have hu65 : (A.deeper (envOfC "_law_joined" (defScope s_law_joined) s.heap.objs.size f cdv)).units + 65 < cLine := by have := hr.un; omega
  have hu1 : (A.deeper (envOfC "_law_joined" (defScope s_law_joined) s.heap.objs.size f cdv)).units + 1 < cLine := by have := hr.un; omega
  exact
      (pss_cons (ps_set (i := 3) sc_law_joined.nd rfl (.inl rfl) (pe_lst pa_nil))
      (pss_cons (ps_for PassesOwn.never rfl (pi_range1 rfl M.range (pa_cons (pv 2) pa_nil)) (pg_name (i := 4) sc_law_joined.nd rfl (.inl rfl)) (pss_cons (ps_set (i := 5) sc_law_joined.nd rfl (.inl rfl) (pe_callC c_law_draw hr (by decide) rfl (pa_cons (pv 0) (pa_cons (pe_callB cr_len rfl M.len PySem.boot_len (pa_cons (pv 1) pa_nil)) pa_nil))))
      (pss_cons (ps_set (i := 6) sc_law_joined.nd rfl (.inl rfl) (pe_callC c_law_draw hr (by decide) rfl (pa_cons (pv 0) (pa_cons (pe_callB cr_len rfl M.len PySem.boot_len (pa_cons (pv 1) pa_nil)) pa_nil))))
      (pss_one (ps_if (pt_cmpR op_ne (pe_ix ix_tup (pe_ix ix_tup (pv 1) (pv 6) (fun _ _ => rfl)) pe_int (fun _ _ => rfl)) (pe_ix ix_tup (pe_ix ix_tup (pv 1) (pv 5) (fun _ _ => rfl)) pe_int (fun _ _ => rfl)) (nomark _)) (pss_one (ps_expr (pe_bm PySem.F.plainAttrs_list PySem.F.slot_list_extend PySem.F.type_list_extend mt_extend (pv 3) (pa_cons (pe_lst (pa_cons (pe_tup (pa_cons (pe_tup (pa_cons (pe_callB (cr_min2 rfl) rfl M.min (by decide +kernel) (pa_cons (pv 6) (pa_cons (pv 5) pa_nil))) pa_nil)) (pa_cons (pe_tup (pa_cons (pe_callB (cr_max2 rfl) rfl M.max (by decide +kernel) (pa_cons (pv 6) (pa_cons (pv 5) pa_nil))) pa_nil)) (pa_cons pe_int pa_nil)))) (pa_cons (pe_tup (pa_cons (pe_tup (pa_cons (pe_callB (cr_max2 rfl) rfl M.max (by decide +kernel) (pa_cons (pv 6) (pa_cons (pv 5) pa_nil))) pa_nil)) (pa_cons (pe_tup (pa_cons (pe_callB (cr_min2 rfl) rfl M.min (by decide +kernel) (pa_cons (pv 6) (pa_cons (pv 5) pa_nil))) pa_nil)) (pa_cons pe_int pa_nil)))) pa_nil))) pa_nil)))) pss_nil)))))
      (pss_one (ps_ret (pv 3)))))
abbrev s_law_of_word : Stmt := topS 19
abbrev N_law_of_word : List Str := ["_law_pen_here", "_law_way", "_law_menu", "_law_rounds", "_law_many", "_law_wires", "_law_turns"]
theorem sc_law_of_word : FnScope N_law_of_word ["_law_pen_here", "_law_way"] (defScope s_law_of_word) := ⟨rfl, rfl, rfl, by decide +kernel, rfl, by decide +kernel, by decide +kernel⟩
def t_law_of_word (K : PySem.W.Frag) (S_law_names : Sp) (S_law_word : Sp) (S_law_chains : Sp) (S_law_joined : Sp) : TS :=
  (tSeq (tAsg (tLst (tCons (tTup (tCons (tLst (tCons (tC (.int 3)) tNil)) (tCons (tC (.int 0)) tNil))) (tCons (tTup (tCons (tLst (tCons (tC (.int 2)) (tCons (tC (.int 2)) tNil))) (tCons (tC (.int 5)) tNil))) (tCons (tTup (tCons (tLst (tCons (tC (.int 1)) (tCons (tC (.int 1)) tNil))) (tCons (tC (.int 2)) tNil))) (tCons (tTup (tCons (tLst (tCons (tC (.int 2)) (tCons (tC (.int 1)) (tCons (tC (.int 1)) tNil)))) (tCons (tC (.int 4)) tNil))) (tCons (tTup (tCons (tLst (tCons (tC (.int 1)) (tCons (tC (.int 1)) (tCons (tC (.int 1)) tNil)))) (tCons (tC (.int 3)) tNil))) (tCons (tTup (tCons (tLst (tCons (tC (.int 1)) (tCons (tC (.int 1)) (tCons (tC (.int 1)) (tCons (tC (.int 1)) tNil))))) (tCons (tC (.int 2)) tNil))) (tCons (tTup (tCons (tOp rRep (tLst (tCons (tC (.int 1)) tNil)) (tC (.int 5))) (tCons (tC (.int 1)) tNil))) tNil)))))))) (gName 2))
  (tSeq (tAsg (tOp (rIxL K) (tOp rCat (tVar 2) (tLst (tCons (tTup (tCons (tOp rRep (tLst (tCons (tC (.int 1)) tNil)) (tC (.int 6))) (tCons (tC (.int 0)) tNil))) tNil))) (tVar 1)) (gTup K 2 (gCons (gName 3) (gCons (gName 4) gNil))))
  (tSeq (tAsg (tCall S_law_word [] E0 (tCons (tVar 0) (tCons (tCall S_law_names [] E0 (tCons (tVar 0) (tCons (tCB (rLenS K) (tCons (tVar 3) tNil)) tNil))) (tCons (tVar 3) tNil)))) (gTup K 2 (gCons (gName 5) (gCons (gName 6) gNil))))
  (tRet (tTup (tCons (tVar 5) (tCons (tVar 6) (tCons (tCB (rTupS K) (tCons (tOp rCat (tCall S_law_chains [] E0 (tCons (tVar 6) tNil)) (tCall S_law_joined [] E0 (tCons (tVar 0) (tCons (tVar 6) (tCons (tVar 4) tNil))))) tNil)) tNil))))))))
theorem b_law_of_word {P : Program} {w : World} {K : PySem.W.Frag} {mg : Str → Option Value} {base : Heap} {S_law_names : Sp} {S_law_word : Sp} {S_law_chains : Sp} {S_law_joined : Sp} (M : Blt mg) (c_law_names : Cal P w K mg base 2 "_law_names" ["_law_pen_here", "_law_many"] S_law_names) (c_law_word : Cal P w K mg base 2 "_law_word" ["_law_pen_here", "_law_names_here", "_law_rounds"] S_law_word) (c_law_chains : Cal P w K mg base 1 "_law_chains" ["_law_turns"] S_law_chains) (c_law_joined : Cal P w K mg base 2 "_law_joined" ["_law_pen_here", "_law_turns", "_law_many"] S_law_joined) (cdv : Value) (A : Around) (outer : List Env) (s : Shared) (H : Hp) (f : Addr)
    (hr : Room 2 (A.deeper (envOfC "_law_of_word" (defScope s_law_of_word) s.heap.objs.size f cdv))) : PSs (cxOf CX0 P w K mg base N_law_of_word "_law_of_word" (defScope s_law_of_word) f cdv A outer s H E0).nox (defBody s_law_of_word) (t_law_of_word K S_law_names S_law_word S_law_chains S_law_joined) := by
  have hu : (A.deeper (envOfC "_law_of_word" (defScope s_law_of_word) s.heap.objs.size f cdv)).units + 64 < cLine := hr.units
  have hu65 : (A.deeper (envOfC "_law_of_word" (defScope s_law_of_word) s.heap.objs.size f cdv)).units + 65 < cLine := by have := hr.un; omega
  have hu1 : (A.deeper (envOfC "_law_of_word" (defScope s_law_of_word) s.heap.objs.size f cdv)).units + 1 < cLine := by have := hr.un; omega
  exact
      (pss_cons (ps_set (i := 2) sc_law_of_word.nd rfl (.inl rfl) (pe_lst (pa_cons (pe_tup (pa_cons (pe_lst (pa_cons pe_int pa_nil)) (pa_cons pe_int pa_nil))) (pa_cons (pe_tup (pa_cons (pe_lst (pa_cons pe_int (pa_cons pe_int pa_nil))) (pa_cons pe_int pa_nil))) (pa_cons (pe_tup (pa_cons (pe_lst (pa_cons pe_int (pa_cons pe_int pa_nil))) (pa_cons pe_int pa_nil))) (pa_cons (pe_tup (pa_cons (pe_lst (pa_cons pe_int (pa_cons pe_int (pa_cons pe_int pa_nil)))) (pa_cons pe_int pa_nil))) (pa_cons (pe_tup (pa_cons (pe_lst (pa_cons pe_int (pa_cons pe_int (pa_cons pe_int pa_nil)))) (pa_cons pe_int pa_nil))) (pa_cons (pe_tup (pa_cons (pe_lst (pa_cons pe_int (pa_cons pe_int (pa_cons pe_int (pa_cons pe_int pa_nil))))) (pa_cons pe_int pa_nil))) (pa_cons (pe_tup (pa_cons (pe_op op_rep (pe_lst (pa_cons pe_int pa_nil)) pe_int) (pa_cons pe_int pa_nil))) pa_nil)))))))))
      (pss_cons (ps_asg (pe_ix ix_list (pe_op op_cat (pv 2) (pe_lst (pa_cons (pe_tup (pa_cons (pe_op op_rep (pe_lst (pa_cons pe_int pa_nil)) pe_int) (pa_cons pe_int pa_nil))) pa_nil))) (pv 1) (fun _ _ => rfl)) (pg_tup rfl (pgs_cons (pg_name (i := 3) sc_law_of_word.nd rfl (.inl rfl)) (pgs_cons (pg_name (i := 4) sc_law_of_word.nd rfl (.inl rfl)) pgs_nil))))
      (pss_cons (ps_asg (pe_callC c_law_word hr (by decide) rfl (pa_cons (pv 0) (pa_cons (pe_callC c_law_names hr (by decide) rfl (pa_cons (pv 0) (pa_cons (pe_callB cr_len rfl M.len PySem.boot_len (pa_cons (pv 3) pa_nil)) pa_nil))) (pa_cons (pv 3) pa_nil)))) (pg_tup rfl (pgs_cons (pg_name (i := 5) sc_law_of_word.nd rfl (.inl rfl)) (pgs_cons (pg_name (i := 6) sc_law_of_word.nd rfl (.inl rfl)) pgs_nil))))
      (pss_one (ps_ret (pe_tup (pa_cons (pv 5) (pa_cons (pv 6) (pa_cons (pe_callTy cr_tup rfl M.tuple boot_tuple (pa_cons (pe_op op_cat (pe_callC c_law_chains hr (by decide) rfl (pa_cons (pv 6) pa_nil)) (pe_callC c_law_joined hr (by decide) rfl (pa_cons (pv 0) (pa_cons (pv 6) (pa_cons (pv 4) pa_nil))))) pa_nil)) pa_nil)))))))))
abbrev s_law_choice : Stmt := topS 20
abbrev N_law_choice : List Str := ["_law_pen_here", "_law_names_here", "_law_values", "_law_order_here", "_law_one", "_law_other", "_law_last", "_law_sides", "_law_turns", "_law_name", "_law_value", "_law_spots", "_law_wires", "_law_at", "_law_k"]
theorem sc_law_choice : FnScope N_law_choice ["_law_pen_here", "_law_names_here"] (defScope s_law_choice) := ⟨rfl, rfl, rfl, by decide +kernel, rfl, by decide +kernel, by decide +kernel⟩
def t_law_choice (K : PySem.W.Frag) (S_law_draw : Sp) : TS :=
  (tSeq (tAsg (tLc (iList K (tVar 1)) (gName 9) tYes (tCall S_law_draw [] E0 (tCons (tVar 0) (tCons (tC (.int 2)) tNil))) [9]) (gName 2))
  (tSeq (tAsg (tOp (rIxL K) (tLst (tCons (tLst (tCons (tC (.int 0)) (tCons (tC (.int 1)) (tCons (tC (.int 2)) tNil)))) (tCons (tLst (tCons (tC (.int 1)) (tCons (tC (.int 2)) (tCons (tC (.int 0)) tNil)))) (tCons (tLst (tCons (tC (.int 2)) (tCons (tC (.int 0)) (tCons (tC (.int 1)) tNil)))) tNil)))) (tCall S_law_draw [] E0 (tCons (tVar 0) (tCons (tC (.int 3)) tNil)))) (gName 3))
  (tSeq (tAsg (tLc (iList K (tVar 3)) (gName 13) tYes (tTup (tCons (tOp (rIxL K) (tVar 1) (tVar 13)) (tCons (tOp (rIxL K) (tVar 2) (tVar 13)) tNil))) [13]) (gUnl K 3 (gCons (gName 4) (gCons (gName 5) (gCons (gName 6) gNil)))))
  (tSeq (tAsg (tCB (rDictP K) (tCons (tLst (tCons (tTup (tCons (tOp (rIxT K) (tVar 4) (tC (.int 0))) (tCons (tC (.str "ask")) tNil))) (tCons (tTup (tCons (tOp (rIxT K) (tVar 5) (tC (.int 0))) (tCons (tC (.str "ask")) tNil))) (tCons (tTup (tCons (tOp (rIxT K) (tVar 6) (tC (.int 0))) (tCons (tC (.str "answer")) tNil))) tNil)))) tNil)) (gName 7))
  (tSeq (tAsg (tLst tNil) (gName 8))
  (tSeq (tFor (iTup K (tTup (tCons (tVar 4) (tCons (tVar 5) tNil)))) (gTup K 2 (gCons (gName 9) (gCons (gName 10) gNil))) (tAsg (tOp rCat (tVar 8) (tLst (tCons (tTup (tCons (tVar 9) (tCons (tOp (rI0 fun i j => .int (i - j)) (tC (.int 1)) (tVar 10)) tNil))) (tCons (tTup (tCons (tOp (rIxT K) (tVar 6) (tC (.int 0))) (tCons (tOp (rI0 fun i j => .int (i - j)) (tC (.int 1)) (tOp (rIxT K) (tVar 6) (tC (.int 1)))) tNil))) (tCons (tTup (tCons (tVar 9) (tCons (tVar 10) tNil))) (tCons (tVar 6) tNil)))))) (gName 8)))
  (tSeq (tAsg (tOp rCat (tLst (tCons (tTup (tCons (tTup (tCons (tC (.int 3)) (tCons (tC (.int 7)) tNil))) (tCons (tTup (tCons (tC (.int 0)) (tCons (tC (.int 4)) tNil))) (tCons (tC (.int 1)) tNil)))) tNil)) (tLc (iTup K (tTup (tCons (tC (.int 0)) (tCons (tC (.int 1)) (tCons (tC (.int 2)) (tCons (tC (.int 4)) (tCons (tC (.int 5)) (tCons (tC (.int 6)) tNil)))))))) (gName 14) tYes (tTup (tCons (tTup (tCons (tVar 14) tNil)) (tCons (tTup (tCons (tOp (rI0 fun i j => .int (i + j)) (tVar 14) (tC (.int 1))) tNil)) (tCons (tC (.int 0)) tNil)))) [14])) (gName 11))
  (tSeq (tAsg (tLc (RZ.iZipA K (tCons (tVar 1) (tCons (tVar 2) tNil))) (gTup K 2 (gCons (gName 9) (gCons (gName 10) gNil))) tYes (tTup (tCons (tVar 9) (tCons (tDGet (tVar 7) (tVar 9)) (tCons (tVar 10) tNil)))) [9, 10]) (gName 12))
  (tRet (tTup (tCons (tCB (rTupS K) (tCons (tVar 12) tNil)) (tCons (tCB (rTupS K) (tCons (tVar 8) tNil)) (tCons (tCB (rTupS K) (tCons (tVar 11) tNil)) tNil)))))))))))))
theorem b_law_choice {P : Program} {w : World} {K : PySem.W.Frag} {mg : Str → Option Value} {base : Heap} {S_law_draw : Sp} (M : Blt mg) (c_law_draw : Cal P w K mg base 1 "_law_draw" ["_law_pen_here", "_law_many"] S_law_draw) (cdv : Value) (A : Around) (outer : List Env) (s : Shared) (H : Hp) (f : Addr)
    (hr : Room 1 (A.deeper (envOfC "_law_choice" (defScope s_law_choice) s.heap.objs.size f cdv))) : PSs (cxOf CX0 P w K mg base N_law_choice "_law_choice" (defScope s_law_choice) f cdv A outer s H E0).nox (defBody s_law_choice) (t_law_choice K S_law_draw) := by
  have hu : (A.deeper (envOfC "_law_choice" (defScope s_law_choice) s.heap.objs.size f cdv)).units + 64 < cLine := hr.units
  have hu65 : (A.deeper (envOfC "_law_choice" (defScope s_law_choice) s.heap.objs.size f cdv)).units + 65 < cLine := by have := hr.un; omega
  have hu1 : (A.deeper (envOfC "_law_choice" (defScope s_law_choice) s.heap.objs.size f cdv)).units + 1 < cLine := by have := hr.un; omega
  exact
      (pss_cons (ps_set (i := 2) sc_law_choice.nd rfl (.inr rfl) (pe_lc (own := [("_law_name", 9)]) rfl sc_law_choice.nd (pi_list (pv 1)) (blkOk_by (N := N_law_choice) (sc := defScope s_law_choice) (by decide +kernel)) (fun _ _ _ _ _ => (pg_name (i := 9) sc_law_choice.nd rfl (.inl rfl))) (fun _ _ _ _ _ => pts_nil) (fun _ _ _ _ _ => (pe_callC c_law_draw hr (by decide) rfl (pa_cons (pv 0) (pa_cons pe_int pa_nil))))))
      (pss_cons (ps_set (i := 3) sc_law_choice.nd rfl (.inl rfl) (pe_ix ix_list (pe_lst (pa_cons (pe_lst (pa_cons pe_int (pa_cons pe_int (pa_cons pe_int pa_nil)))) (pa_cons (pe_lst (pa_cons pe_int (pa_cons pe_int (pa_cons pe_int pa_nil)))) (pa_cons (pe_lst (pa_cons pe_int (pa_cons pe_int (pa_cons pe_int pa_nil)))) pa_nil)))) (pe_callC c_law_draw hr (by decide) rfl (pa_cons (pv 0) (pa_cons pe_int pa_nil))) (fun _ _ => rfl)))
      (pss_cons (ps_asg (pe_lc (own := [("_law_at", 13)]) rfl sc_law_choice.nd (pi_list (pv 3)) (blkOk_by (N := N_law_choice) (sc := defScope s_law_choice) (by decide +kernel)) (fun _ _ _ _ _ => (pg_name (i := 13) sc_law_choice.nd rfl (.inl rfl))) (fun _ _ _ _ _ => pts_nil) (fun _ _ _ _ _ => (pe_tup (pa_cons (pe_ix ix_list (pv 1) (pv 13) (fun _ _ => rfl)) (pa_cons (pe_ix ix_list (pv 2) (pv 13) (fun _ _ => rfl)) pa_nil))))) (pg_unl rfl (pgs_cons (pg_name (i := 4) sc_law_choice.nd rfl (.inl rfl)) (pgs_cons (pg_name (i := 5) sc_law_choice.nd rfl (.inl rfl)) (pgs_cons (pg_name (i := 6) sc_law_choice.nd rfl (.inl rfl)) pgs_nil)))))
      (pss_cons (ps_set (i := 7) sc_law_choice.nd rfl (.inr rfl) (pe_callTy (cr_dictP rfl) rfl M.dict boot_dict (pa_cons (pe_lst (pa_cons (pe_tup (pa_cons (pe_ix ix_tup (pv 4) pe_int (fun _ _ => rfl)) (pa_cons pe_str pa_nil))) (pa_cons (pe_tup (pa_cons (pe_ix ix_tup (pv 5) pe_int (fun _ _ => rfl)) (pa_cons pe_str pa_nil))) (pa_cons (pe_tup (pa_cons (pe_ix ix_tup (pv 6) pe_int (fun _ _ => rfl)) (pa_cons pe_str pa_nil))) pa_nil)))) pa_nil)))
      (pss_cons (ps_set (i := 8) sc_law_choice.nd rfl (.inl rfl) (pe_lst pa_nil))
      (pss_cons (ps_for PassesOwn.never rfl (pi_tup (pe_tup (pa_cons (pv 4) (pa_cons (pv 5) pa_nil)))) (pg_tup rfl (pgs_cons (pg_name (i := 9) sc_law_choice.nd rfl (.inl rfl)) (pgs_cons (pg_name (i := 10) sc_law_choice.nd rfl (.inl rfl)) pgs_nil))) (pss_one (ps_set (i := 8) sc_law_choice.nd rfl (.inl rfl) (pe_op op_cat (pv 8) (pe_lst (pa_cons (pe_tup (pa_cons (pv 9) (pa_cons (pe_op op_sub pe_int (pv 10)) pa_nil))) (pa_cons (pe_tup (pa_cons (pe_ix ix_tup (pv 6) pe_int (fun _ _ => rfl)) (pa_cons (pe_op op_sub pe_int (pe_ix ix_tup (pv 6) pe_int (fun _ _ => rfl))) pa_nil))) (pa_cons (pe_tup (pa_cons (pv 9) (pa_cons (pv 10) pa_nil))) (pa_cons (pv 6) pa_nil)))))))))
      (pss_cons (ps_set (i := 11) sc_law_choice.nd rfl (.inl rfl) (pe_op op_cat (pe_lst (pa_cons (pe_tup (pa_cons (pe_tup (pa_cons pe_int (pa_cons pe_int pa_nil))) (pa_cons (pe_tup (pa_cons pe_int (pa_cons pe_int pa_nil))) (pa_cons pe_int pa_nil)))) pa_nil)) (pe_lc (own := [("_law_k", 14)]) rfl sc_law_choice.nd (pi_tup (pe_tup (pa_cons pe_int (pa_cons pe_int (pa_cons pe_int (pa_cons pe_int (pa_cons pe_int (pa_cons pe_int pa_nil)))))))) (blkOk_by (N := N_law_choice) (sc := defScope s_law_choice) (by decide +kernel)) (fun _ _ _ _ _ => (pg_name (i := 14) sc_law_choice.nd rfl (.inl rfl))) (fun _ _ _ _ _ => pts_nil) (fun _ _ _ _ _ => (pe_tup (pa_cons (pe_tup (pa_cons (pv 14) pa_nil)) (pa_cons (pe_tup (pa_cons (pe_op op_add (pv 14) pe_int) pa_nil)) (pa_cons pe_int pa_nil))))))))
      (pss_cons (ps_setLc (i := 12) (own := [("_law_name", 9), ("_law_value", 10)]) rfl sc_law_choice.nd rfl rfl rfl (RZ.pi_zipA rfl M.zip (pa_cons (pv 1) (pa_cons (pv 2) pa_nil))) (blkOk_by (N := N_law_choice) (sc := defScope s_law_choice) (by decide +kernel)) (fun _ _ _ _ _ => (pg_tup rfl (pgs_cons (pg_name (i := 9) sc_law_choice.nd rfl (.inl rfl)) (pgs_cons (pg_name (i := 10) sc_law_choice.nd rfl (.inl rfl)) pgs_nil)))) (fun _ _ _ _ _ => pts_nil) (fun _ _ _ _ _ => (pe_tup (pa_cons (pv 9) (pa_cons (pe_dget hu1 (pv 7) (pv 9) (fun _ _ => rfl)) (pa_cons (pv 10) pa_nil))))))
      (pss_one (ps_ret (pe_tup (pa_cons (pe_callTy cr_tup rfl M.tuple boot_tuple (pa_cons (pv 12) pa_nil)) (pa_cons (pe_callTy cr_tup rfl M.tuple boot_tuple (pa_cons (pv 8) pa_nil)) (pa_cons (pe_callTy cr_tup rfl M.tuple boot_tuple (pa_cons (pv 11) pa_nil)) pa_nil))))))))))))))
abbrev s_law_beside : Stmt := topS 21
abbrev N_law_beside : List Str := ["_law_one", "_law_other", "_law_many", "_law_spots", "_law_befores", "_law_behinds", "_law_mark", "_law_k"]
theorem sc_law_beside : FnScope N_law_beside ["_law_one", "_law_other"] (defScope s_law_beside) := ⟨rfl, rfl, rfl, by decide +kernel, rfl, by decide +kernel, by decide +kernel⟩
def t_law_beside (K : PySem.W.Frag) : TS :=
  (tSeq (tAsg (tCB (rLenS K) (tCons (tOp (rIxT K) (tVar 0) (tC (.int 1))) tNil)) (gName 2))
  (tSeq (tAsg (tCB (rListS K) (tCons (tOp (rIxT K) (tVar 0) (tC (.int 2))) tNil)) (gName 3))
  (tSeq (tFor (iTup K (tOp (rIxT K) (tVar 1) (tC (.int 2)))) (gTup K 3 (gCons (gName 4) (gCons (gName 5) (gCons (gName 6) gNil)))) (tDrop (tBM K "list" rAppend (tVar 3) (tCons (tTup (tCons (tCB (rTupS K) (tCons (tLc (iTup K (tVar 4)) (gName 7) tYes (tOp (rI0 fun i j => .int (i + j)) (tVar 7) (tVar 2)) [7]) tNil)) (tCons (tCB (rTupS K) (tCons (tLc (iTup K (tVar 5)) (gName 7) tYes (tOp (rI0 fun i j => .int (i + j)) (tVar 7) (tVar 2)) [7]) tNil)) (tCons (tVar 6) tNil)))) tNil))))
  (tRet (tTup (tCons (tCB (rTupS K) (tCons (tCB (rSortedD K) (tCons (tOp (rCatA K) (tOp (rIxT K) (tVar 0) (tC (.int 0))) (tOp (rIxT K) (tVar 1) (tC (.int 0)))) tNil)) tNil)) (tCons (tOp (rCatA K) (tOp (rIxT K) (tVar 0) (tC (.int 1))) (tOp (rIxT K) (tVar 1) (tC (.int 1)))) (tCons (tCB (rTupS K) (tCons (tVar 3) tNil)) tNil))))))))
theorem b_law_beside {P : Program} {w : World} {K : PySem.W.Frag} {mg : Str → Option Value} {base : Heap} (M : Blt mg) (cdv : Value) (A : Around) (outer : List Env) (s : Shared) (H : Hp) (f : Addr)
    (hr : Room 0 (A.deeper (envOfC "_law_beside" (defScope s_law_beside) s.heap.objs.size f cdv))) : PSs (cxOf CX0 P w K mg base N_law_beside "_law_beside" (defScope s_law_beside) f cdv A outer s H E0).nox (defBody s_law_beside) (t_law_beside K) := by
  have hu : (A.deeper (envOfC "_law_beside" (defScope s_law_beside) s.heap.objs.size f cdv)).units + 64 < cLine := hr.units
  have hu65 : (A.deeper (envOfC "_law_beside" (defScope s_law_beside) s.heap.objs.size f cdv)).units + 65 < cLine := by have := hr.un; omega
  have hu1 : (A.deeper (envOfC "_law_beside" (defScope s_law_beside) s.heap.objs.size f cdv)).units + 1 < cLine := by have := hr.un; omega
  exact
      (pss_cons (ps_set (i := 2) sc_law_beside.nd rfl (.inr rfl) (pe_callB cr_len rfl M.len PySem.boot_len (pa_cons (pe_ix ix_tup (pv 0) pe_int (fun _ _ => rfl)) pa_nil)))
      (pss_cons (ps_set (i := 3) sc_law_beside.nd rfl (.inl rfl) (pe_callTy cr_list rfl M.list boot_list (pa_cons (pe_ix ix_tup (pv 0) pe_int (fun _ _ => rfl)) pa_nil)))
      (pss_cons (ps_for PassesOwn.never rfl (pi_tup (pe_ix ix_tup (pv 1) pe_int (fun _ _ => rfl))) (pg_tup rfl (pgs_cons (pg_name (i := 4) sc_law_beside.nd rfl (.inl rfl)) (pgs_cons (pg_name (i := 5) sc_law_beside.nd rfl (.inl rfl)) (pgs_cons (pg_name (i := 6) sc_law_beside.nd rfl (.inl rfl)) pgs_nil)))) (pss_one (ps_expr (pe_bm PySem.F.plainAttrs_list PySem.F.slot_list_append PySem.F.type_list_append mt_append (pv 3) (pa_cons (pe_tup (pa_cons (pe_callTy cr_tup rfl M.tuple boot_tuple (pa_cons (pe_lc (own := [("_law_k", 7)]) rfl sc_law_beside.nd (pi_tup (pv 4)) (blkOk_by (N := N_law_beside) (sc := defScope s_law_beside) (by decide +kernel)) (fun _ _ _ _ _ => (pg_name (i := 7) sc_law_beside.nd rfl (.inl rfl))) (fun _ _ _ _ _ => pts_nil) (fun _ _ _ _ _ => (pe_op op_add (pv 7) (pv 2)))) pa_nil)) (pa_cons (pe_callTy cr_tup rfl M.tuple boot_tuple (pa_cons (pe_lc (own := [("_law_k", 7)]) rfl sc_law_beside.nd (pi_tup (pv 5)) (blkOk_by (N := N_law_beside) (sc := defScope s_law_beside) (by decide +kernel)) (fun _ _ _ _ _ => (pg_name (i := 7) sc_law_beside.nd rfl (.inl rfl))) (fun _ _ _ _ _ => pts_nil) (fun _ _ _ _ _ => (pe_op op_add (pv 7) (pv 2)))) pa_nil)) (pa_cons (pv 6) pa_nil)))) pa_nil)))))
      (pss_one (ps_ret (pe_tup (pa_cons (pe_callTy cr_tup rfl M.tuple boot_tuple (pa_cons (pe_callB (cr_sortedD hu) rfl M.sorted boot_sorted (pa_cons (pe_op op_catA (pe_ix ix_tup (pv 0) pe_int (fun _ _ => rfl)) (pe_ix ix_tup (pv 1) pe_int (fun _ _ => rfl))) pa_nil)) pa_nil)) (pa_cons (pe_op op_catA (pe_ix ix_tup (pv 0) pe_int (fun _ _ => rfl)) (pe_ix ix_tup (pv 1) pe_int (fun _ _ => rfl))) (pa_cons (pe_callTy cr_tup rfl M.tuple boot_tuple (pa_cons (pv 3) pa_nil)) pa_nil)))))))))
abbrev s_law_by_choice : Stmt := topS 22
abbrev N_law_by_choice : List Str := ["_law_pen_here", "_law_rounds", "_law_names_here", "_law_chosen", "_law_wires", "_law_turns", "_law_spots"]
theorem sc_law_by_choice : FnScope N_law_by_choice ["_law_pen_here"] (defScope s_law_by_choice) := ⟨rfl, rfl, rfl, by decide +kernel, rfl, by decide +kernel, by decide +kernel⟩
def t_law_by_choice (K : PySem.W.Frag) (S_law_draw : Sp) (S_law_names : Sp) (S_law_choice : Sp) (S_law_word : Sp) (S_law_chains : Sp) (S_law_joined : Sp) (S_law_beside : Sp) : TS :=
  (tSeq (tAsg (tOp (rIxL K) (tLst (tCons (tLst tNil) (tCons (tLst (tCons (tC (.int 1)) tNil)) (tCons (tLst (tCons (tC (.int 2)) tNil)) (tCons (tLst (tCons (tC (.int 1)) (tCons (tC (.int 1)) tNil))) tNil))))) (tCall S_law_draw [] E0 (tCons (tVar 0) (tCons (tC (.int 4)) tNil)))) (gName 1))
  (tSeq (tAsg (tCall S_law_names [] E0 (tCons (tVar 0) (tCons (tOp (rI0 fun i j => .int (i + j)) (tC (.int 3)) (tCB (rLenS K) (tCons (tVar 1) tNil))) tNil))) (gName 2))
  (tSeq (tAsg (tCall S_law_choice [] E0 (tCons (tVar 0) (tCons (tSl (rSlL K) (tVar 2) tNoPart (tPart (tC (.int 3)))) tNil))) (gName 3))
  (tSeq (tIfS (tTest (tOp (rEqD K) (tVar 1) (tLst tNil))) (tRet (tVar 3)) tNext)
  (tSeq (tAsg (tCall S_law_word [] E0 (tCons (tVar 0) (tCons (tSl (rSlL K) (tVar 2) (tPart (tC (.int 3))) tNoPart) (tCons (tVar 1) tNil)))) (gTup K 2 (gCons (gName 4) (gCons (gName 5) gNil))))
  (tSeq (tAsg (tOp rCat (tCall S_law_chains [] E0 (tCons (tVar 5) tNil)) (tCall S_law_joined [] E0 (tCons (tVar 0) (tCons (tVar 5) (tCons (tCB rInt1 (tCons (tOp (rI0 fun i j => .bl (decide (j < i))) (tCB (rLenS K) (tCons (tVar 1) tNil)) (tC (.int 1))) tNil)) tNil))))) (gName 6))
  (tRet (tCall S_law_beside [] E0 (tCons (tVar 3) (tCons (tTup (tCons (tVar 4) (tCons (tVar 5) (tCons (tCB (rTupS K) (tCons (tVar 6) tNil)) tNil)))) tNil))))))))))
theorem b_law_by_choice {P : Program} {w : World} {K : PySem.W.Frag} {mg : Str → Option Value} {base : Heap} {S_law_draw : Sp} {S_law_names : Sp} {S_law_choice : Sp} {S_law_word : Sp} {S_law_chains : Sp} {S_law_joined : Sp} {S_law_beside : Sp} (M : Blt mg) (c_law_draw : Cal P w K mg base 1 "_law_draw" ["_law_pen_here", "_law_many"] S_law_draw) (c_law_names : Cal P w K mg base 2 "_law_names" ["_law_pen_here", "_law_many"] S_law_names) (c_law_choice : Cal P w K mg base 2 "_law_choice" ["_law_pen_here", "_law_names_here"] S_law_choice) (c_law_word : Cal P w K mg base 2 "_law_word" ["_law_pen_here", "_law_names_here", "_law_rounds"] S_law_word) (c_law_chains : Cal P w K mg base 1 "_law_chains" ["_law_turns"] S_law_chains) (c_law_joined : Cal P w K mg base 2 "_law_joined" ["_law_pen_here", "_law_turns", "_law_many"] S_law_joined) (c_law_beside : Cal P w K mg base 1 "_law_beside" ["_law_one", "_law_other"] S_law_beside) (cdv : Value) (A : Around) (outer : List Env) (s : Shared) (H : Hp) (f : Addr)
    (hr : Room 2 (A.deeper (envOfC "_law_by_choice" (defScope s_law_by_choice) s.heap.objs.size f cdv))) : PSs (cxOf CX0 P w K mg base N_law_by_choice "_law_by_choice" (defScope s_law_by_choice) f cdv A outer s H E0).nox (defBody s_law_by_choice) (t_law_by_choice K S_law_draw S_law_names S_law_choice S_law_word S_law_chains S_law_joined S_law_beside) := by
  have hu : (A.deeper (envOfC "_law_by_choice" (defScope s_law_by_choice) s.heap.objs.size f cdv)).units + 64 < cLine := hr.units
  have hu65 : (A.deeper (envOfC "_law_by_choice" (defScope s_law_by_choice) s.heap.objs.size f cdv)).units + 65 < cLine := by have := hr.un; omega
  have hu1 : (A.deeper (envOfC "_law_by_choice" (defScope s_law_by_choice) s.heap.objs.size f cdv)).units + 1 < cLine := by have := hr.un; omega
  exact
      (pss_cons (ps_set (i := 1) sc_law_by_choice.nd rfl (.inl rfl) (pe_ix ix_list (pe_lst (pa_cons (pe_lst pa_nil) (pa_cons (pe_lst (pa_cons pe_int pa_nil)) (pa_cons (pe_lst (pa_cons pe_int pa_nil)) (pa_cons (pe_lst (pa_cons pe_int (pa_cons pe_int pa_nil))) pa_nil))))) (pe_callC c_law_draw hr (by decide) rfl (pa_cons (pv 0) (pa_cons pe_int pa_nil))) (fun _ _ => rfl)))
      (pss_cons (ps_set (i := 2) sc_law_by_choice.nd rfl (.inl rfl) (pe_callC c_law_names hr (by decide) rfl (pa_cons (pv 0) (pa_cons (pe_op op_add pe_int (pe_callB cr_len rfl M.len PySem.boot_len (pa_cons (pv 1) pa_nil))) pa_nil))))
      (pss_cons (ps_set (i := 3) sc_law_by_choice.nd rfl (.inl rfl) (pe_callC c_law_choice hr (by decide) rfl (pa_cons (pv 0) (pa_cons (pe_slice sl_list (pv 2) po_none (po_some pe_int)) pa_nil))))
      (pss_cons (ps_if (pt_cmpR (op_eqD hu) (pv 1) (pe_lst pa_nil) (nomark _)) (pss_one (ps_ret (pv 3))) pss_nil)
      (pss_cons (ps_asg (pe_callC c_law_word hr (by decide) rfl (pa_cons (pv 0) (pa_cons (pe_slice sl_list (pv 2) (po_some pe_int) po_none) (pa_cons (pv 1) pa_nil)))) (pg_tup rfl (pgs_cons (pg_name (i := 4) sc_law_by_choice.nd rfl (.inl rfl)) (pgs_cons (pg_name (i := 5) sc_law_by_choice.nd rfl (.inl rfl)) pgs_nil))))
      (pss_cons (ps_set (i := 6) sc_law_by_choice.nd rfl (.inl rfl) (pe_op op_cat (pe_callC c_law_chains hr (by decide) rfl (pa_cons (pv 5) pa_nil)) (pe_callC c_law_joined hr (by decide) rfl (pa_cons (pv 0) (pa_cons (pv 5) (pa_cons (pe_callTy cr_int1 rfl M.int boot_int (pa_cons (pe_cmpR op_gt (pe_callB cr_len rfl M.len PySem.boot_len (pa_cons (pv 1) pa_nil)) pe_int (nomark _)) pa_nil)) pa_nil))))))
      (pss_one (ps_ret (pe_callC c_law_beside hr (by decide) rfl (pa_cons (pv 3) (pa_cons (pe_tup (pa_cons (pv 4) (pa_cons (pv 5) (pa_cons (pe_callTy cr_tup rfl M.tuple boot_tuple (pa_cons (pv 6) pa_nil)) pa_nil)))) pa_nil)))))))))))
abbrev s_law_order : Stmt := topS 23
abbrev N_law_order : List Str := ["_law_pen_here", "_law_many", "_law_found", "_law_k"]
theorem sc_law_order : FnScope N_law_order ["_law_pen_here", "_law_many"] (defScope s_law_order) := ⟨rfl, rfl, rfl, by decide +kernel, rfl, by decide +kernel, by decide +kernel⟩
def t_law_order (K : PySem.W.Frag) (S_law_draw : Sp) : TS :=
  (tSeq (tAsg (tLst tNil) (gName 2))
  (tSeq (tFor (iRng1 (tCons (tVar 1) tNil)) (gName 3) (tDrop (tBM K "list" rInsert (tVar 2) (tCons (tCall S_law_draw [] E0 (tCons (tVar 0) (tCons (tOp (rI0 fun i j => .int (i + j)) (tVar 3) (tC (.int 1))) tNil))) (tCons (tVar 3) tNil)))))
  (tRet (tVar 2))))
theorem b_law_order {P : Program} {w : World} {K : PySem.W.Frag} {mg : Str → Option Value} {base : Heap} {S_law_draw : Sp} (M : Blt mg) (c_law_draw : Cal P w K mg base 1 "_law_draw" ["_law_pen_here", "_law_many"] S_law_draw) (cdv : Value) (A : Around) (outer : List Env) (s : Shared) (H : Hp) (f : Addr)
    (hr : Room 1 (A.deeper (envOfC "_law_order" (defScope s_law_order) s.heap.objs.size f cdv))) : PSs (cxOf CX0 P w K mg base N_law_order "_law_order" (defScope s_law_order) f cdv A outer s H E0).nox (defBody s_law_order) (t_law_order K S_law_draw) := by
  have hu : (A.deeper (envOfC "_law_order" (defScope s_law_order) s.heap.objs.size f cdv)).units + 64 < cLine := hr.units
  have hu65 : (A.deeper (envOfC "_law_order" (defScope s_law_order) s.heap.objs.size f cdv)).units + 65 < cLine := by have := hr.un; omega
  have hu1 : (A.deeper (envOfC "_law_order" (defScope s_law_order) s.heap.objs.size f cdv)).units + 1 < cLine := by have := hr.un; omega
  exact
      (pss_cons (ps_set (i := 2) sc_law_order.nd rfl (.inl rfl) (pe_lst pa_nil))
      (pss_cons (ps_for PassesOwn.never rfl (pi_range1 rfl M.range (pa_cons (pv 1) pa_nil)) (pg_name (i := 3) sc_law_order.nd rfl (.inl rfl)) (pss_one (ps_expr (pe_bm PySem.F.plainAttrs_list PySem.F.slot_list_insert PySem.F.type_list_insert mt_ins (pv 2) (pa_cons (pe_callC c_law_draw hr (by decide) rfl (pa_cons (pv 0) (pa_cons (pe_op op_add (pv 3) pe_int) pa_nil))) (pa_cons (pv 3) pa_nil))))))
      (pss_one (ps_ret (pv 2)))))
abbrev s_law_numbered : Stmt := topS 24
abbrev N_law_numbered : List Str := ["_law_sheet_here", "_law_order_here", "_law_places", "_law_news", "_law_spots", "_law_at", "_law_befores", "_law_behinds", "_law_mark", "_law_k"]
theorem sc_law_numbered : FnScope N_law_numbered ["_law_sheet_here", "_law_order_here", "_law_places"] (defScope s_law_numbered) := ⟨rfl, rfl, rfl, by decide +kernel, rfl, by decide +kernel, by decide +kernel⟩
def t_law_numbered (K : PySem.W.Frag) : TS :=
  (tSeq (tAsg (tLc (iRng1 (tCons (tCB (rLenS K) (tCons (tVar 1) tNil)) tNil)) (gName 9) tYes (tBM K "list" (rIndex K) (tVar 1) (tCons (tVar 9) tNil)) [9]) (gName 3))
  (tSeq (tAsg (tLst tNil) (gName 4))
  (tSeq (tFor (iList K (tVar 2)) (gName 5) (tSeq (tAsg (tOp (rIxT K) (tOp (rIxT K) (tVar 0) (tC (.int 2))) (tVar 5)) (gTup K 3 (gCons (gName 6) (gCons (gName 7) (gCons (gName 8) gNil)))))
  (tSeq (tAsg (tCB (rTupS K) (tCons (tCB (rSortedD K) (tCons (tLc (iTup K (tVar 6)) (gName 9) tYes (tOp (rIxL K) (tVar 3) (tVar 9)) [9]) tNil)) tNil)) (gName 6))
  (tDrop (tBM K "list" rAppend (tVar 4) (tCons (tTup (tCons (tVar 6) (tCons (tCB (rTupS K) (tCons (tCB (rSortedD K) (tCons (tLc (iTup K (tVar 7)) (gName 9) tYes (tOp (rIxL K) (tVar 3) (tVar 9)) [9]) tNil)) tNil)) (tCons (tVar 8) tNil)))) tNil))))))
  (tRet (tTup (tCons (tTup (tCons (tOp (rIxT K) (tVar 0) (tC (.int 0))) (tCons (tCB (rTupS K) (tCons (tLc (iList K (tVar 1)) (gName 9) tYes (tOp (rIxT K) (tOp (rIxT K) (tVar 0) (tC (.int 1))) (tVar 9)) [9]) tNil)) (tCons (tCB (rTupS K) (tCons (tVar 4) tNil)) tNil)))) (tCons (tVar 3) tNil)))))))
theorem b_law_numbered {P : Program} {w : World} {K : PySem.W.Frag} {mg : Str → Option Value} {base : Heap} (M : Blt mg) (cdv : Value) (A : Around) (outer : List Env) (s : Shared) (H : Hp) (f : Addr)
    (hr : Room 0 (A.deeper (envOfC "_law_numbered" (defScope s_law_numbered) s.heap.objs.size f cdv))) : PSs (cxOf CX0 P w K mg base N_law_numbered "_law_numbered" (defScope s_law_numbered) f cdv A outer s H E0).nox (defBody s_law_numbered) (t_law_numbered K) := by
  have hu : (A.deeper (envOfC "_law_numbered" (defScope s_law_numbered) s.heap.objs.size f cdv)).units + 64 < cLine := hr.units
  have hu65 : (A.deeper (envOfC "_law_numbered" (defScope s_law_numbered) s.heap.objs.size f cdv)).units + 65 < cLine := by have := hr.un; omega
  have hu1 : (A.deeper (envOfC "_law_numbered" (defScope s_law_numbered) s.heap.objs.size f cdv)).units + 1 < cLine := by have := hr.un; omega
  exact
      (pss_cons (ps_set (i := 3) sc_law_numbered.nd rfl (.inr rfl) (pe_lc (own := [("_law_k", 9)]) rfl sc_law_numbered.nd (pi_range1 rfl M.range (pa_cons (pe_callB cr_len rfl M.len PySem.boot_len (pa_cons (pv 1) pa_nil)) pa_nil)) (blkOk_by (N := N_law_numbered) (sc := defScope s_law_numbered) (by decide +kernel)) (fun _ _ _ _ _ => (pg_name (i := 9) sc_law_numbered.nd rfl (.inl rfl))) (fun _ _ _ _ _ => pts_nil) (fun _ _ _ _ _ => (pe_bm PySem.F.plainAttrs_list PySem.F.slot_list_index PySem.F.type_list_index mt_index (pv 1) (pa_cons (pv 9) pa_nil)))))
      (pss_cons (ps_set (i := 4) sc_law_numbered.nd rfl (.inl rfl) (pe_lst pa_nil))
      (pss_cons (ps_for PassesOwn.never rfl (pi_list (pv 2)) (pg_name (i := 5) sc_law_numbered.nd rfl (.inl rfl)) (pss_cons (ps_asg (pe_ix ix_tup (pe_ix ix_tup (pv 0) pe_int (fun _ _ => rfl)) (pv 5) (fun _ _ => rfl)) (pg_tup rfl (pgs_cons (pg_name (i := 6) sc_law_numbered.nd rfl (.inl rfl)) (pgs_cons (pg_name (i := 7) sc_law_numbered.nd rfl (.inl rfl)) (pgs_cons (pg_name (i := 8) sc_law_numbered.nd rfl (.inl rfl)) pgs_nil)))))
      (pss_cons (ps_set (i := 6) sc_law_numbered.nd rfl (.inl rfl) (pe_callTy cr_tup rfl M.tuple boot_tuple (pa_cons (pe_callB (cr_sortedD hu) rfl M.sorted boot_sorted (pa_cons (pe_lc (own := [("_law_k", 9)]) rfl sc_law_numbered.nd (pi_tup (pv 6)) (blkOk_by (N := N_law_numbered) (sc := defScope s_law_numbered) (by decide +kernel)) (fun _ _ _ _ _ => (pg_name (i := 9) sc_law_numbered.nd rfl (.inl rfl))) (fun _ _ _ _ _ => pts_nil) (fun _ _ _ _ _ => (pe_ix ix_list (pv 3) (pv 9) (fun _ _ => rfl)))) pa_nil)) pa_nil)))
      (pss_one (ps_expr (pe_bm PySem.F.plainAttrs_list PySem.F.slot_list_append PySem.F.type_list_append mt_append (pv 4) (pa_cons (pe_tup (pa_cons (pv 6) (pa_cons (pe_callTy cr_tup rfl M.tuple boot_tuple (pa_cons (pe_callB (cr_sortedD hu) rfl M.sorted boot_sorted (pa_cons (pe_lc (own := [("_law_k", 9)]) rfl sc_law_numbered.nd (pi_tup (pv 7)) (blkOk_by (N := N_law_numbered) (sc := defScope s_law_numbered) (by decide +kernel)) (fun _ _ _ _ _ => (pg_name (i := 9) sc_law_numbered.nd rfl (.inl rfl))) (fun _ _ _ _ _ => pts_nil) (fun _ _ _ _ _ => (pe_ix ix_list (pv 3) (pv 9) (fun _ _ => rfl)))) pa_nil)) pa_nil)) (pa_cons (pv 8) pa_nil)))) pa_nil)))))))
      (pss_one (ps_ret (pe_tup (pa_cons (pe_tup (pa_cons (pe_ix ix_tup (pv 0) pe_int (fun _ _ => rfl)) (pa_cons (pe_callTy cr_tup rfl M.tuple boot_tuple (pa_cons (pe_lc (own := [("_law_k", 9)]) rfl sc_law_numbered.nd (pi_list (pv 1)) (blkOk_by (N := N_law_numbered) (sc := defScope s_law_numbered) (by decide +kernel)) (fun _ _ _ _ _ => (pg_name (i := 9) sc_law_numbered.nd rfl (.inl rfl))) (fun _ _ _ _ _ => pts_nil) (fun _ _ _ _ _ => (pe_ix ix_tup (pe_ix ix_tup (pv 0) pe_int (fun _ _ => rfl)) (pv 9) (fun _ _ => rfl)))) pa_nil)) (pa_cons (pe_callTy cr_tup rfl M.tuple boot_tuple (pa_cons (pv 4) pa_nil)) pa_nil)))) (pa_cons (pv 3) pa_nil))))))))
abbrev s_law_may : Stmt := topS 25
abbrev N_law_may : List Str := ["_law_sheet_here", "_law_marks", "_law_found", "_law_k", "_law_ahead", "_law_spot", "_law_here"]
theorem sc_law_may : FnScope N_law_may ["_law_sheet_here", "_law_marks"] (defScope s_law_may) := ⟨rfl, rfl, rfl, by decide +kernel, rfl, by decide +kernel, by decide +kernel⟩
def t_law_may (K : PySem.W.Frag) : TS :=
  (tSeq (tAsg (tLst tNil) (gName 2))
  (tSeq (tFor (iRng1 (tCons (tCB (rLenS K) (tCons (tOp (rIxT K) (tVar 0) (tC (.int 1))) tNil)) tNil)) (gName 3) (tSeq (tAsg (tLc (RZ.iZipA K (tCons (tOp (rIxT K) (tVar 0) (tC (.int 2))) (tCons (tVar 1) tNil))) (gTup K 2 (gCons (gName 5) (gCons (gName 6) gNil))) (tTest (tOp (rIn K false) (tVar 3) (tOp (rIxT K) (tVar 5) (tC (.int 1))))) (tVar 6) [5, 6]) (gName 4))
  (tIfS (tTest (tOp (rIn K true) (tC (.int 0)) (tVar 4))) (tDrop (tBM K "list" rAppend (tVar 2) (tCons (tVar 3) tNil))) tNext)))
  (tRet (tVar 2))))
theorem b_law_may {P : Program} {w : World} {K : PySem.W.Frag} {mg : Str → Option Value} {base : Heap} (M : Blt mg) (cdv : Value) (A : Around) (outer : List Env) (s : Shared) (H : Hp) (f : Addr)
    (hr : Room 0 (A.deeper (envOfC "_law_may" (defScope s_law_may) s.heap.objs.size f cdv))) : PSs (cxOf CX0 P w K mg base N_law_may "_law_may" (defScope s_law_may) f cdv A outer s H E0).nox (defBody s_law_may) (t_law_may K) := by
  have hu : (A.deeper (envOfC "_law_may" (defScope s_law_may) s.heap.objs.size f cdv)).units + 64 < cLine := hr.units
  have hu65 : (A.deeper (envOfC "_law_may" (defScope s_law_may) s.heap.objs.size f cdv)).units + 65 < cLine := by have := hr.un; omega
  have hu1 : (A.deeper (envOfC "_law_may" (defScope s_law_may) s.heap.objs.size f cdv)).units + 1 < cLine := by have := hr.un; omega
  exact
      (pss_cons (ps_set (i := 2) sc_law_may.nd rfl (.inl rfl) (pe_lst pa_nil))
      (pss_cons (ps_for PassesOwn.never rfl (pi_range1 rfl M.range (pa_cons (pe_callB cr_len rfl M.len PySem.boot_len (pa_cons (pe_ix ix_tup (pv 0) pe_int (fun _ _ => rfl)) pa_nil)) pa_nil)) (pg_name (i := 3) sc_law_may.nd rfl (.inr rfl)) (pss_cons (ps_setLc (i := 4) (own := [("_law_spot", 5), ("_law_here", 6)]) rfl sc_law_may.nd rfl rfl rfl (RZ.pi_zipA rfl M.zip (pa_cons (pe_ix ix_tup (pv 0) pe_int (fun _ _ => rfl)) (pa_cons (pv 1) pa_nil))) (blkOk_by (N := N_law_may) (sc := defScope s_law_may) (by decide +kernel)) (fun _ _ _ _ _ => (pg_tup rfl (pgs_cons (pg_name (i := 5) sc_law_may.nd rfl (.inl rfl)) (pgs_cons (pg_name (i := 6) sc_law_may.nd rfl (.inl rfl)) pgs_nil)))) (fun _ _ _ _ _ => (pts_one (pt_cmpR op_in_seq (pv 3) (pe_ix ix_tup (pv 5) pe_int (fun _ _ => rfl)) (by first | rfl | with_unfolding_all rfl)))) (fun _ _ _ _ _ => (pv 6)))
      (pss_one (ps_if (pt_cmpR op_notIn_seq pe_int (pv 4) (by first | rfl | with_unfolding_all rfl)) (pss_one (ps_expr (pe_bm PySem.F.plainAttrs_list PySem.F.slot_list_append PySem.F.type_list_append mt_append (pv 2) (pa_cons (pv 3) pa_nil)))) pss_nil))))
      (pss_one (ps_ret (pv 2)))))
abbrev s_law_behind : Stmt := topS 26
abbrev N_law_behind : List Str := ["_law_sheet_here", "_law_stand", "_law_k", "_law_marks", "_law_at", "_law_names_here", "_law_values", "_law_wire"]
theorem sc_law_behind : FnScope N_law_behind ["_law_sheet_here", "_law_stand", "_law_k"] (defScope s_law_behind) := ⟨rfl, rfl, rfl, by decide +kernel, rfl, by decide +kernel, by decide +kernel⟩
def t_law_behind (K : PySem.W.Frag) : TS :=
  (tSeq (tAsg (tCB (rListS K) (tCons (tOp (rIxT K) (tVar 1) (tC (.int 0))) tNil)) (gName 3))
  (tSeq (tFor (iRng1 (tCons (tCB (rLenS K) (tCons (tVar 3) tNil)) tNil)) (gName 4) (tIfS (tTest (tOp (rIn K false) (tVar 2) (tOp (rIxT K) (tOp (rIxT K) (tOp (rIxT K) (tVar 0) (tC (.int 2))) (tVar 4)) (tC (.int 1))))) (tAsg (tC (.int 0)) (gSub (tVar 3) (tVar 4) L2.rSetL)) tNext))
  (tSeq (tFor (iRng1 (tCons (tCB (rLenS K) (tCons (tVar 3) tNil)) tNil)) (gName 4) (tIfS (tTest (tOp (rIn K false) (tVar 2) (tOp (rIxT K) (tOp (rIxT K) (tOp (rIxT K) (tVar 0) (tC (.int 2))) (tVar 4)) (tC (.int 0))))) (tAsg (tC (.int 1)) (gSub (tVar 3) (tVar 4) L2.rSetL)) tNext))
  (tSeq (tAsg (tLc (iTup K (tOp (rIxT K) (tVar 0) (tC (.int 0)))) (gName 7) tYes (tOp (rIxT K) (tVar 7) (tC (.int 0))) [7]) (gName 5))
  (tSeq (tAsg (tCB (rListS K) (tCons (tOp (rIxT K) (tVar 1) (tC (.int 1))) tNil)) (gName 6))
  (tSeq (tAsg (tOp (rIxT K) (tOp (rIxT K) (tOp (rIxT K) (tVar 0) (tC (.int 1))) (tVar 2)) (tC (.int 1))) (gSub (tVar 6) (tBM K "list" (rIndex K) (tVar 5) (tCons (tOp (rIxT K) (tOp (rIxT K) (tOp (rIxT K) (tVar 0) (tC (.int 1))) (tVar 2)) (tC (.int 0))) tNil)) L2.rSetL))
  (tRet (tTup (tCons (tCB (rTupS K) (tCons (tVar 3) tNil)) (tCons (tCB (rTupS K) (tCons (tVar 6) tNil)) tNil))))))))))
theorem b_law_behind {P : Program} {w : World} {K : PySem.W.Frag} {mg : Str → Option Value} {base : Heap} (M : Blt mg) (cdv : Value) (A : Around) (outer : List Env) (s : Shared) (H : Hp) (f : Addr)
    (hr : Room 0 (A.deeper (envOfC "_law_behind" (defScope s_law_behind) s.heap.objs.size f cdv))) : PSs (cxOf CX0 P w K mg base N_law_behind "_law_behind" (defScope s_law_behind) f cdv A outer s H E0).nox (defBody s_law_behind) (t_law_behind K) := by
  have hu : (A.deeper (envOfC "_law_behind" (defScope s_law_behind) s.heap.objs.size f cdv)).units + 64 < cLine := hr.units
  have hu65 : (A.deeper (envOfC "_law_behind" (defScope s_law_behind) s.heap.objs.size f cdv)).units + 65 < cLine := by have := hr.un; omega
  have hu1 : (A.deeper (envOfC "_law_behind" (defScope s_law_behind) s.heap.objs.size f cdv)).units + 1 < cLine := by have := hr.un; omega
  exact
      (pss_cons (ps_set (i := 3) sc_law_behind.nd rfl (.inl rfl) (pe_callTy cr_list rfl M.list boot_list (pa_cons (pe_ix ix_tup (pv 1) pe_int (fun _ _ => rfl)) pa_nil)))
      (pss_cons (ps_for PassesOwn.never rfl (pi_range1 rfl M.range (pa_cons (pe_callB cr_len rfl M.len PySem.boot_len (pa_cons (pv 3) pa_nil)) pa_nil)) (pg_name (i := 4) sc_law_behind.nd rfl (.inl rfl)) (pss_one (ps_if (pt_cmpR op_in_seq (pv 2) (pe_ix ix_tup (pe_ix ix_tup (pe_ix ix_tup (pv 0) pe_int (fun _ _ => rfl)) (pv 4) (fun _ _ => rfl)) pe_int (fun _ _ => rfl)) (by first | rfl | with_unfolding_all rfl)) (pss_one (ps_asg pe_int (pg_sub (pv 3) (pv 4) set_list (fun _ => rfl)))) pss_nil)))
      (pss_cons (ps_for PassesOwn.never rfl (pi_range1 rfl M.range (pa_cons (pe_callB cr_len rfl M.len PySem.boot_len (pa_cons (pv 3) pa_nil)) pa_nil)) (pg_name (i := 4) sc_law_behind.nd rfl (.inl rfl)) (pss_one (ps_if (pt_cmpR op_in_seq (pv 2) (pe_ix ix_tup (pe_ix ix_tup (pe_ix ix_tup (pv 0) pe_int (fun _ _ => rfl)) (pv 4) (fun _ _ => rfl)) pe_int (fun _ _ => rfl)) (by first | rfl | with_unfolding_all rfl)) (pss_one (ps_asg pe_int (pg_sub (pv 3) (pv 4) set_list (fun _ => rfl)))) pss_nil)))
      (pss_cons (ps_setLc (i := 5) (own := [("_law_wire", 7)]) rfl sc_law_behind.nd rfl rfl rfl (pi_tup (pe_ix ix_tup (pv 0) pe_int (fun _ _ => rfl))) (blkOk_by (N := N_law_behind) (sc := defScope s_law_behind) (by decide +kernel)) (fun _ _ _ _ _ => (pg_name (i := 7) sc_law_behind.nd rfl (.inl rfl))) (fun _ _ _ _ _ => pts_nil) (fun _ _ _ _ _ => (pe_ix ix_tup (pv 7) pe_int (fun _ _ => rfl))))
      (pss_cons (ps_set (i := 6) sc_law_behind.nd rfl (.inl rfl) (pe_callTy cr_list rfl M.list boot_list (pa_cons (pe_ix ix_tup (pv 1) pe_int (fun _ _ => rfl)) pa_nil)))
      (pss_cons (ps_asg (pe_ix ix_tup (pe_ix ix_tup (pe_ix ix_tup (pv 0) pe_int (fun _ _ => rfl)) (pv 2) (fun _ _ => rfl)) pe_int (fun _ _ => rfl)) (pg_sub (pv 6) (pe_bm PySem.F.plainAttrs_list PySem.F.slot_list_index PySem.F.type_list_index mt_index (pv 5) (pa_cons (pe_ix ix_tup (pe_ix ix_tup (pe_ix ix_tup (pv 0) pe_int (fun _ _ => rfl)) (pv 2) (fun _ _ => rfl)) pe_int (fun _ _ => rfl)) pa_nil)) set_list (fun _ => rfl)))
      (pss_one (ps_ret (pe_tup (pa_cons (pe_callTy cr_tup rfl M.tuple boot_tuple (pa_cons (pv 3) pa_nil)) (pa_cons (pe_callTy cr_tup rfl M.tuple boot_tuple (pa_cons (pv 6) pa_nil)) pa_nil)))))))))))
abbrev s_law_faults : Stmt := topS 27
abbrev N_law_faults : List Str := ["_law_sheet_here", "_law_stand", "_law_marks", "_law_values", "_law_asks", "_law_names_here", "_law_may_here", "_law_found", "_law_k", "_law_name", "_law_way", "_law_j", "_law_shared", "_law_wire", "_law_spot", "_law_here"]
theorem sc_law_faults : FnScope N_law_faults ["_law_sheet_here", "_law_stand"] (defScope s_law_faults) := ⟨rfl, rfl, rfl, by decide +kernel, rfl, by decide +kernel, by decide +kernel⟩
def t_law_faults (K : PySem.W.Frag) (S_law_may : Sp) : TS :=
  (tSeq (tAsg (tVar 1) (gTup K 2 (gCons (gName 2) (gCons (gName 3) gNil))))
  (tSeq (tAsg (tLc (iTup K (tOp (rIxT K) (tVar 0) (tC (.int 0)))) (gName 13) (tTest (tOp rEq (tOp (rIxT K) (tVar 13) (tC (.int 1))) (tC (.str "ask")))) (tOp (rIxT K) (tVar 13) (tC (.int 0))) [13]) (gName 4))
  (tSeq (tAsg (tLc (iTup K (tOp (rIxT K) (tVar 0) (tC (.int 0)))) (gName 13) tYes (tOp (rIxT K) (tVar 13) (tC (.int 0))) [13]) (gName 5))
  (tSeq (tAsg (tCall S_law_may [] E0 (tCons (tVar 0) (tCons (tVar 2) tNil))) (gName 6))
  (tSeq (tAsg (tOp rRep (tLst (tCons (tTup (tCons (tC (.str "end")) tNil)) tNil)) (tCB rInt1 (tCons (tOp (rEqD K) (tVar 6) (tLst tNil)) tNil))) (gName 7))
  (tSeq (tFor (iList K (tVar 6)) (gName 8) (tSeq (tAsg (tOp (rIxT K) (tOp (rIxT K) (tVar 0) (tC (.int 1))) (tVar 8)) (gTup K 2 (gCons (gName 9) (gCons (gName 10) gNil))))
  (tSeq (tIfS (tTest (tOp (rNeD K) (tLc (RZ.iZipA K (tCons (tOp (rIxT K) (tVar 0) (tC (.int 2))) (tCons (tVar 2) tNil))) (gTup K 2 (gCons (gName 14) (gCons (gName 15) gNil))) (tAnd (tTest (tOp rEq (tVar 15) (tC (.int 1)))) (tAnd (tTest (tOp (rIn K false) (tVar 8) (tOp (rIxT K) (tVar 14) (tC (.int 0))))) (tTest (tOp (rIn K true) (tVar 8) (tOp (rIxT K) (tVar 14) (tC (.int 1))))))) (tC (.int 1)) [14, 15]) (tLst tNil))) (tDrop (tBM K "list" rAppend (tVar 7) (tCons (tTup (tCons (tC (.str "crowd")) (tCons (tVar 8) tNil))) tNil))) tNext)
  (tSeq (tIfS (tTest (tOp rEq (tOp (rIxT K) (tVar 3) (tBM K "list" (rIndex K) (tVar 5) (tCons (tVar 9) tNil))) (tVar 10))) (tDrop (tBM K "list" rAppend (tVar 7) (tCons (tTup (tCons (tC (.str "way")) (tCons (tVar 8) tNil))) tNil))) tNext)
  (tFor (iList K (tLc (iList K (tVar 6)) (gName 11) (tTest (tOp (rI0 fun i j => .bl (decide (i < j))) (tVar 11) (tVar 8))) (tVar 11) [11])) (gName 11) (tSeq (tAsg (tLc (iTup K (tOp (rIxT K) (tVar 0) (tC (.int 2)))) (gName 14) (tAnd (tTest (tOp (rIn K false) (tVar 11) (tOp (rIxT K) (tVar 14) (tC (.int 1))))) (tTest (tOp (rIn K false) (tVar 8) (tOp (rIxT K) (tVar 14) (tC (.int 1)))))) (tC (.int 1)) [14]) (gName 12))
  (tSeq (tIfS (tAnd (tTest (tOp (rNeD K) (tVar 12) (tLst tNil))) (tOr (tTest (tOp (rIn K true) (tVar 9) (tVar 4))) (tTest (tOp (rIn K true) (tOp (rIxT K) (tOp (rIxT K) (tOp (rIxT K) (tVar 0) (tC (.int 1))) (tVar 11)) (tC (.int 0))) (tVar 4))))) (tDrop (tBM K "list" rAppend (tVar 7) (tCons (tTup (tCons (tC (.str "choice")) (tCons (tVar 11) (tCons (tVar 8) tNil)))) tNil))) tNext)
  (tIfS (tTest (tOp rEq (tOp (rIxT K) (tOp (rIxT K) (tOp (rIxT K) (tVar 0) (tC (.int 1))) (tVar 11)) (tC (.int 0))) (tVar 9))) (tDrop (tBM K "list" rAppend (tVar 7) (tCons (tTup (tCons (tC (.str "twice")) (tCons (tVar 11) (tCons (tVar 8) tNil)))) tNil))) tNext))))))))
  (tRet (tCB (rSortedD K) (tCons (tVar 7) tNil)))))))))
theorem b_law_faults {P : Program} {w : World} {K : PySem.W.Frag} {mg : Str → Option Value} {base : Heap} {S_law_may : Sp} (M : Blt mg) (c_law_may : Cal P w K mg base 1 "_law_may" ["_law_sheet_here", "_law_marks"] S_law_may) (cdv : Value) (A : Around) (outer : List Env) (s : Shared) (H : Hp) (f : Addr)
    (hr : Room 1 (A.deeper (envOfC "_law_faults" (defScope s_law_faults) s.heap.objs.size f cdv))) : PSs (cxOf CX0 P w K mg base N_law_faults "_law_faults" (defScope s_law_faults) f cdv A outer s H E0).nox (defBody s_law_faults) (t_law_faults K S_law_may) := by
  have hu : (A.deeper (envOfC "_law_faults" (defScope s_law_faults) s.heap.objs.size f cdv)).units + 64 < cLine := hr.units
  have hu65 : (A.deeper (envOfC "_law_faults" (defScope s_law_faults) s.heap.objs.size f cdv)).units + 65 < cLine := by have := hr.un; omega
  have hu1 : (A.deeper (envOfC "_law_faults" (defScope s_law_faults) s.heap.objs.size f cdv)).units + 1 < cLine := by have := hr.un; omega
  exact
      (pss_cons (ps_asg (pv 1) (pg_tup rfl (pgs_cons (pg_name (i := 2) sc_law_faults.nd rfl (.inl rfl)) (pgs_cons (pg_name (i := 3) sc_law_faults.nd rfl (.inl rfl)) pgs_nil))))
      (pss_cons (ps_setLc (i := 4) (own := [("_law_wire", 13)]) rfl sc_law_faults.nd rfl rfl rfl (pi_tup (pe_ix ix_tup (pv 0) pe_int (fun _ _ => rfl))) (blkOk_by (N := N_law_faults) (sc := defScope s_law_faults) (by decide +kernel)) (fun _ _ _ _ _ => (pg_name (i := 13) sc_law_faults.nd rfl (.inl rfl))) (fun _ _ _ _ _ => (pts_one (pt_cmpR op_eq (pe_ix ix_tup (pv 13) pe_int (fun _ _ => rfl)) pe_str (nomark _)))) (fun _ _ _ _ _ => (pe_ix ix_tup (pv 13) pe_int (fun _ _ => rfl))))
      (pss_cons (ps_setLc (i := 5) (own := [("_law_wire", 13)]) rfl sc_law_faults.nd rfl rfl rfl (pi_tup (pe_ix ix_tup (pv 0) pe_int (fun _ _ => rfl))) (blkOk_by (N := N_law_faults) (sc := defScope s_law_faults) (by decide +kernel)) (fun _ _ _ _ _ => (pg_name (i := 13) sc_law_faults.nd rfl (.inl rfl))) (fun _ _ _ _ _ => pts_nil) (fun _ _ _ _ _ => (pe_ix ix_tup (pv 13) pe_int (fun _ _ => rfl))))
      (pss_cons (ps_set (i := 6) sc_law_faults.nd rfl (.inl rfl) (pe_callC c_law_may hr (by decide) rfl (pa_cons (pv 0) (pa_cons (pv 2) pa_nil))))
      (pss_cons (ps_set (i := 7) sc_law_faults.nd rfl (.inl rfl) (pe_op op_rep (pe_lst (pa_cons (pe_tup (pa_cons pe_str pa_nil)) pa_nil)) (pe_callTy cr_int1 rfl M.int boot_int (pa_cons (pe_cmpR (op_eqD hu) (pv 6) (pe_lst pa_nil) (nomark _)) pa_nil))))
      (pss_cons (ps_for PassesOwn.never rfl (pi_list (pv 6)) (pg_name (i := 8) sc_law_faults.nd rfl (.inr rfl)) (pss_cons (ps_asg (pe_ix ix_tup (pe_ix ix_tup (pv 0) pe_int (fun _ _ => rfl)) (pv 8) (fun _ _ => rfl)) (pg_tup rfl (pgs_cons (pg_name (i := 9) sc_law_faults.nd rfl (.inl rfl)) (pgs_cons (pg_name (i := 10) sc_law_faults.nd rfl (.inl rfl)) pgs_nil))))
      (pss_cons (ps_if (pt_cmpR (op_neD hu) (pe_lc (own := [("_law_spot", 14), ("_law_here", 15)]) rfl sc_law_faults.nd (RZ.pi_zipA rfl M.zip (pa_cons (pe_ix ix_tup (pv 0) pe_int (fun _ _ => rfl)) (pa_cons (pv 2) pa_nil))) (blkOk_by (N := N_law_faults) (sc := defScope s_law_faults) (by decide +kernel)) (fun _ _ _ _ _ => (pg_tup rfl (pgs_cons (pg_name (i := 14) sc_law_faults.nd rfl (.inl rfl)) (pgs_cons (pg_name (i := 15) sc_law_faults.nd rfl (.inl rfl)) pgs_nil)))) (fun _ _ _ _ _ => (pts_one (PW.pt (pw_and (pt_cmpR op_eq (pv 15) pe_int (nomark _)) (pw_and (pt_cmpR op_in_seq (pv 8) (pe_ix ix_tup (pv 14) pe_int (fun _ _ => rfl)) (by first | rfl | with_unfolding_all rfl)) (pw_and1 (pt_cmpR op_notIn_seq (pv 8) (pe_ix ix_tup (pv 14) pe_int (fun _ _ => rfl)) (by first | rfl | with_unfolding_all rfl)))))))) (fun _ _ _ _ _ => pe_int)) (pe_lst pa_nil) (nomark _)) (pss_one (ps_expr (pe_bm PySem.F.plainAttrs_list PySem.F.slot_list_append PySem.F.type_list_append mt_append (pv 7) (pa_cons (pe_tup (pa_cons pe_str (pa_cons (pv 8) pa_nil))) pa_nil)))) pss_nil)
      (pss_cons (ps_if (pt_cmpR op_eq (pe_ix ix_tup (pv 3) (pe_bm PySem.F.plainAttrs_list PySem.F.slot_list_index PySem.F.type_list_index mt_index (pv 5) (pa_cons (pv 9) pa_nil)) (fun _ _ => rfl)) (pv 10) (nomark _)) (pss_one (ps_expr (pe_bm PySem.F.plainAttrs_list PySem.F.slot_list_append PySem.F.type_list_append mt_append (pv 7) (pa_cons (pe_tup (pa_cons pe_str (pa_cons (pv 8) pa_nil))) pa_nil)))) pss_nil)
      (pss_one (ps_for PassesOwn.never rfl (pi_list (pe_lc (own := [("_law_j", 11)]) rfl sc_law_faults.nd (pi_list (pv 6)) (blkOk_by (N := N_law_faults) (sc := defScope s_law_faults) (by decide +kernel)) (fun _ _ _ _ _ => (pg_name (i := 11) sc_law_faults.nd rfl (.inl rfl))) (fun _ _ _ _ _ => (pts_one (pt_cmpR op_lt (pv 11) (pv 8) (nomark _)))) (fun _ _ _ _ _ => (pv 11)))) (pg_name (i := 11) sc_law_faults.nd rfl (.inr rfl)) (pss_cons (ps_setLc (i := 12) (own := [("_law_spot", 14)]) rfl sc_law_faults.nd rfl rfl rfl (pi_tup (pe_ix ix_tup (pv 0) pe_int (fun _ _ => rfl))) (blkOk_by (N := N_law_faults) (sc := defScope s_law_faults) (by decide +kernel)) (fun _ _ _ _ _ => (pg_name (i := 14) sc_law_faults.nd rfl (.inl rfl))) (fun _ _ _ _ _ => (pts_one (PW.pt (pw_and (pt_cmpR op_in_seq (pv 11) (pe_ix ix_tup (pv 14) pe_int (fun _ _ => rfl)) (by first | rfl | with_unfolding_all rfl)) (pw_and1 (pt_cmpR op_in_seq (pv 8) (pe_ix ix_tup (pv 14) pe_int (fun _ _ => rfl)) (by first | rfl | with_unfolding_all rfl))))))) (fun _ _ _ _ _ => pe_int))
      (pss_cons (ps_if (PW.pt (pw_and (pt_cmpR (op_neD hu) (pv 12) (pe_lst pa_nil) (nomark _)) (pw_and1 (PW.pt (pw_or (pt_cmpR op_notIn_seq (pv 9) (pv 4) (by first | rfl | with_unfolding_all rfl)) (pw_or1 (pt_cmpR op_notIn_seq (pe_ix ix_tup (pe_ix ix_tup (pe_ix ix_tup (pv 0) pe_int (fun _ _ => rfl)) (pv 11) (fun _ _ => rfl)) pe_int (fun _ _ => rfl)) (pv 4) (by first | rfl | with_unfolding_all rfl)))))))) (pss_one (ps_expr (pe_bm PySem.F.plainAttrs_list PySem.F.slot_list_append PySem.F.type_list_append mt_append (pv 7) (pa_cons (pe_tup (pa_cons pe_str (pa_cons (pv 11) (pa_cons (pv 8) pa_nil)))) pa_nil)))) pss_nil)
      (pss_one (ps_if (pt_cmpR op_eq (pe_ix ix_tup (pe_ix ix_tup (pe_ix ix_tup (pv 0) pe_int (fun _ _ => rfl)) (pv 11) (fun _ _ => rfl)) pe_int (fun _ _ => rfl)) (pv 9) (nomark _)) (pss_one (ps_expr (pe_bm PySem.F.plainAttrs_list PySem.F.slot_list_append PySem.F.type_list_append mt_append (pv 7) (pa_cons (pe_tup (pa_cons pe_str (pa_cons (pv 11) (pa_cons (pv 8) pa_nil)))) pa_nil)))) pss_nil))))))))))
      (pss_one (ps_ret (pe_callB (cr_sortedD hu) rfl M.sorted boot_sorted (pa_cons (pv 7) pa_nil))))))))))
abbrev s_law_stands : Stmt := topS 28
abbrev N_law_stands : List Str := ["_law_sheet_here", "_law_most", "_law_first", "_law_found", "_law_waiting", "_law_stand", "_law_k", "_law_later", "_law_spot", "_law_wire"]
theorem sc_law_stands : FnScope N_law_stands ["_law_sheet_here", "_law_most"] (defScope s_law_stands) := ⟨rfl, rfl, rfl, by decide +kernel, rfl, by decide +kernel, by decide +kernel⟩
def t_law_stands (P : Program) (w : World) (K : PySem.W.Frag) (S_law_faults : Sp) (S_law_may : Sp) (S_law_behind : Sp) : TS :=
  (tSeq (tAsg (tTup (tCons (tCB (rTupS K) (tCons (tLc (iTup K (tOp (rIxT K) (tVar 0) (tC (.int 2)))) (gName 8) tYes (tOp (rIxT K) (tVar 8) (tC (.int 2))) [8]) tNil)) (tCons (tCB (rTupS K) (tCons (tLc (iTup K (tOp (rIxT K) (tVar 0) (tC (.int 0)))) (gName 9) tYes (tOp (rIxT K) (tVar 9) (tC (.int 2))) [9]) tNil)) tNil))) (gName 2))
  (tSeq (tAsg (tDispN P w (tVar 2) (tCall S_law_faults [] E0 (tCons (tVar 0) (tCons (tVar 2) tNil)))) (gName 3))
  (tSeq (tAsg (tLst (tCons (tVar 2) tNil)) (gName 4))
  (tSeq (tWhile (tTest (tOp (rNeD K) (tVar 4) (tLst tNil))) (tSeq (tAsg (tBM0 K "list" rPop (tVar 4)) (gName 5))
  (tSeq (tIfS (tTest (tOp (rEqD K) (tOp (rGetN P w) (tVar 3) (tVar 5)) (tLst tNil))) (tFor (iList K (tCall S_law_may [] E0 (tCons (tVar 0) (tCons (tOp (rIxT K) (tVar 5) (tC (.int 0))) tNil)))) (gName 6) (tSeq (tAsg (tCall S_law_behind [] E0 (tCons (tVar 0) (tCons (tVar 5) (tCons (tVar 6) tNil)))) (gName 7))
  (tIfS (tTest (tOp (rNotInN P w) (tVar 7) (tVar 3))) (tSeq (tAsg (tCall S_law_faults [] E0 (tCons (tVar 0) (tCons (tVar 7) tNil))) (gSub (tVar 3) (tVar 7) (rSetN P w)))
  (tDrop (tBM K "list" rAppend (tVar 4) (tCons (tVar 7) tNil)))) tNext))) tNext)
  (tIfS (tTest (tOp (rI0 fun i j => .bl (decide (j < i))) (tCB (rLenN P w) (tCons (tVar 3) tNil)) (tVar 1))) (tRet (tC .non)) tNext))))
  (tRet (tVar 3))))))
theorem b_law_stands {P : Program} {w : World} {K : PySem.W.Frag} {mg : Str → Option Value} {base : Heap} {S_law_faults : Sp} {S_law_may : Sp} {S_law_behind : Sp} (M : Blt mg) (c_law_faults : Cal P w K mg base 2 "_law_faults" ["_law_sheet_here", "_law_stand"] S_law_faults) (c_law_may : Cal P w K mg base 1 "_law_may" ["_law_sheet_here", "_law_marks"] S_law_may) (c_law_behind : Cal P w K mg base 1 "_law_behind" ["_law_sheet_here", "_law_stand", "_law_k"] S_law_behind) (cdv : Value) (A : Around) (outer : List Env) (s : Shared) (H : Hp) (f : Addr)
    (hr : Room 2 (A.deeper (envOfC "_law_stands" (defScope s_law_stands) s.heap.objs.size f cdv))) : PSs (cxOf CX0 P w K mg base N_law_stands "_law_stands" (defScope s_law_stands) f cdv A outer s H E0).nox (defBody s_law_stands) (t_law_stands P w K S_law_faults S_law_may S_law_behind) := by
  have hu : (A.deeper (envOfC "_law_stands" (defScope s_law_stands) s.heap.objs.size f cdv)).units + 64 < cLine := hr.units
  have hu65 : (A.deeper (envOfC "_law_stands" (defScope s_law_stands) s.heap.objs.size f cdv)).units + 65 < cLine := by have := hr.un; omega
  have hu1 : (A.deeper (envOfC "_law_stands" (defScope s_law_stands) s.heap.objs.size f cdv)).units + 1 < cLine := by have := hr.un; omega
  exact
      (pss_cons (ps_set (i := 2) sc_law_stands.nd rfl (.inl rfl) (pe_tup (pa_cons (pe_callTy cr_tup rfl M.tuple boot_tuple (pa_cons (pe_lc (own := [("_law_spot", 8)]) rfl sc_law_stands.nd (pi_tup (pe_ix ix_tup (pv 0) pe_int (fun _ _ => rfl))) (blkOk_by (N := N_law_stands) (sc := defScope s_law_stands) (by decide +kernel)) (fun _ _ _ _ _ => (pg_name (i := 8) sc_law_stands.nd rfl (.inl rfl))) (fun _ _ _ _ _ => pts_nil) (fun _ _ _ _ _ => (pe_ix ix_tup (pv 8) pe_int (fun _ _ => rfl)))) pa_nil)) (pa_cons (pe_callTy cr_tup rfl M.tuple boot_tuple (pa_cons (pe_lc (own := [("_law_wire", 9)]) rfl sc_law_stands.nd (pi_tup (pe_ix ix_tup (pv 0) pe_int (fun _ _ => rfl))) (blkOk_by (N := N_law_stands) (sc := defScope s_law_stands) (by decide +kernel)) (fun _ _ _ _ _ => (pg_name (i := 9) sc_law_stands.nd rfl (.inl rfl))) (fun _ _ _ _ _ => pts_nil) (fun _ _ _ _ _ => (pe_ix ix_tup (pv 9) pe_int (fun _ _ => rfl)))) pa_nil)) pa_nil))))
      (pss_cons (ps_set (i := 3) sc_law_stands.nd rfl (.inl rfl) (pe_dispN (pv 2) (pe_callC c_law_faults hr (by decide) rfl (pa_cons (pv 0) (pa_cons (pv 2) pa_nil))) hu))
      (pss_cons (ps_set (i := 4) sc_law_stands.nd rfl (.inl rfl) (pe_lst (pa_cons (pv 2) pa_nil)))
      (pss_cons (ps_while PassesOwn.never (pt_cmpR (op_neD hu) (pv 4) (pe_lst pa_nil) (nomark _)) (pss_cons (ps_set (i := 5) sc_law_stands.nd rfl (.inl rfl) (pe_bm0 PySem.F.plainAttrs_list PySem.F.slot_list_pop PySem.F.type_list_pop mt_pop (pv 4)))
      (pss_cons (ps_if (pt_cmpR (op_eqD hu) (pe_ix (ix_getN hu) (pv 3) (pv 5) (fun _ _ => rfl)) (pe_lst pa_nil) (nomark _)) (pss_one (ps_for PassesOwn.never rfl (pi_list (pe_callC c_law_may hr (by decide) rfl (pa_cons (pv 0) (pa_cons (pe_ix ix_tup (pv 5) pe_int (fun _ _ => rfl)) pa_nil)))) (pg_name (i := 6) sc_law_stands.nd rfl (.inl rfl)) (pss_cons (ps_set (i := 7) sc_law_stands.nd rfl (.inl rfl) (pe_callC c_law_behind hr (by decide) rfl (pa_cons (pv 0) (pa_cons (pv 5) (pa_cons (pv 6) pa_nil)))))
      (pss_one (ps_if (pt_cmpR (op_notInN hu) (pv 7) (pv 3) (by first | rfl | with_unfolding_all rfl)) (pss_cons (ps_asg (pe_callC c_law_faults hr (by decide) rfl (pa_cons (pv 0) (pa_cons (pv 7) pa_nil))) (pg_sub (pv 3) (pv 7) (set_N hu) (fun _ => rfl)))
      (pss_one (ps_expr (pe_bm PySem.F.plainAttrs_list PySem.F.slot_list_append PySem.F.type_list_append mt_append (pv 4) (pa_cons (pv 7) pa_nil))))) pss_nil))))) pss_nil)
      (pss_one (ps_if (pt_cmpR op_gt (pe_callB cr_lenN rfl M.len PySem.boot_len (pa_cons (pv 3) pa_nil)) (pv 1) (nomark _)) (pss_one (ps_ret pe_non)) pss_nil)))))
      (pss_one (ps_ret (pv 3)))))))
abbrev s_law_with : Stmt := topS 29
abbrev N_law_with : List Str := ["_law_some", "_law_at", "_law_one"]
theorem sc_law_with : FnScope N_law_with ["_law_some", "_law_at", "_law_one"] (defScope s_law_with) := ⟨rfl, rfl, rfl, by decide +kernel, rfl, by decide +kernel, by decide +kernel⟩
def t_law_with (K : PySem.W.Frag) : TS :=
  (tRet (tOp (rCatA K) (tOp (rCatA K) (tSl (rSlA K) (tVar 0) tNoPart (tPart (tVar 1))) (tTup (tCons (tVar 2) tNil))) (tSl (rSlA K) (tVar 0) (tPart (tOp (rI0 fun i j => .int (i + j)) (tVar 1) (tC (.int 1)))) tNoPart)))
theorem b_law_with {P : Program} {w : World} {K : PySem.W.Frag} {mg : Str → Option Value} {base : Heap} (M : Blt mg) (cdv : Value) (A : Around) (outer : List Env) (s : Shared) (H : Hp) (f : Addr)
    (hr : Room 0 (A.deeper (envOfC "_law_with" (defScope s_law_with) s.heap.objs.size f cdv))) : PSs (cxOf CX0 P w K mg base N_law_with "_law_with" (defScope s_law_with) f cdv A outer s H E0).nox (defBody s_law_with) (t_law_with K) := by
  have hu : (A.deeper (envOfC "_law_with" (defScope s_law_with) s.heap.objs.size f cdv)).units + 64 < cLine := hr.units
  have hu65 : (A.deeper (envOfC "_law_with" (defScope s_law_with) s.heap.objs.size f cdv)).units + 65 < cLine := by have := hr.un; omega
  have hu1 : (A.deeper (envOfC "_law_with" (defScope s_law_with) s.heap.objs.size f cdv)).units + 1 < cLine := by have := hr.un; omega
  exact
      (pss_one (ps_ret (pe_op op_catA (pe_op op_catA (pe_slice sl_tupA (pv 0) po_none (po_some (pv 1))) (pe_tup (pa_cons (pv 2) pa_nil))) (pe_slice sl_tupA (pv 0) (po_some (pe_op op_add (pv 1) pe_int)) po_none))))
abbrev s_law_spoilt : Stmt := topS 30
abbrev N_law_spoilt : List Str := ["_law_pen_here", "_law_sheet_here", "_law_way", "_law_wires", "_law_turns", "_law_spots", "_law_at", "_law_k", "_law_befores", "_law_behinds", "_law_mark", "_law_here", "_law_name", "_law_side", "_law_value", "_law_other"]
theorem sc_law_spoilt : FnScope N_law_spoilt ["_law_pen_here", "_law_sheet_here"] (defScope s_law_spoilt) := ⟨rfl, rfl, rfl, by decide +kernel, rfl, by decide +kernel, by decide +kernel⟩
def t_law_spoilt (w : World) (K : PySem.W.Frag) (S_law_draw : Sp) (S_law_with : Sp) : TS :=
  (tSeq (tAsg (tCall S_law_draw [] E0 (tCons (tVar 0) (tCons (tC (.int 10)) tNil))) (gName 2))
  (tSeq (tAsg (tVar 1) (gTup K 3 (gCons (gName 3) (gCons (gName 4) (gCons (gName 5) gNil)))))
  (tSeq (tAsg (tCall S_law_draw [] E0 (tCons (tVar 0) (tCons (tCB (rLenS K) (tCons (tVar 5) tNil)) tNil))) (gName 6))
  (tSeq (tAsg (tCall S_law_draw [] E0 (tCons (tVar 0) (tCons (tCB (rLenS K) (tCons (tVar 4) tNil)) tNil))) (gName 7))
  (tSeq (tAsg (tOp (rIxT K) (tVar 5) (tVar 6)) (gTup K 3 (gCons (gName 8) (gCons (gName 9) (gCons (gName 10) gNil)))))
  (tSeq (tIfS (tTest (tOp rEq (tVar 2) (tC (.int 0)))) (tRet (tTup (tCons (tVar 3) (tCons (tVar 4) (tCons (tOp (rCatA K) (tSl (rSlA K) (tVar 5) tNoPart (tPart (tVar 6))) (tSl (rSlA K) (tVar 5) (tPart (tOp (rI0 fun i j => .int (i + j)) (tVar 6) (tC (.int 1)))) tNoPart)) tNil))))) tNext)
  (tSeq (tIfS (tTest (tOp rEq (tVar 2) (tC (.int 1)))) (tRet (tTup (tCons (tVar 3) (tCons (tVar 4) (tCons (tCall S_law_with [] E0 (tCons (tVar 5) (tCons (tVar 6) (tCons (tTup (tCons (tVar 8) (tCons (tVar 9) (tCons (tOp (rI0 fun i j => .int (i - j)) (tC (.int 1)) (tVar 10)) tNil)))) tNil)))) tNil))))) tNext)
  (tSeq (tIfS (tTest (tOp rEq (tVar 2) (tC (.int 2)))) (tRet (tTup (tCons (tVar 3) (tCons (tCall S_law_with [] E0 (tCons (tVar 4) (tCons (tVar 7) (tCons (tTup (tCons (tOp (rIxT K) (tOp (rIxT K) (tVar 4) (tVar 7)) (tC (.int 0))) (tCons (tOp (rI0 fun i j => .int (i - j)) (tC (.int 1)) (tOp (rIxT K) (tOp (rIxT K) (tVar 4) (tVar 7)) (tC (.int 1)))) tNil))) tNil)))) (tCons (tVar 5) tNil))))) tNext)
  (tSeq (tIfS (tTest (tOp (rIn K false) (tVar 2) (tTup (tCons (tC (.int 3)) (tCons (tC (.int 4)) tNil))))) (tSeq (tAsg (tCall S_law_draw [] E0 (tCons (tVar 0) (tCons (tCB (rLenS K) (tCons (tVar 3) tNil)) tNil))) (gName 11))
  (tSeq (tAsg (tOp (rIxT K) (tVar 3) (tVar 11)) (gTup K 3 (gCons (gName 12) (gCons (gName 13) (gCons (gName 14) gNil)))))
  (tSeq (tAsg (tOp (rIxL K) (tLst (tCons (tTup (tCons (tVar 12) (tCons (tVar 13) (tCons (tOp (rI0 fun i j => .int (i - j)) (tC (.int 1)) (tVar 14)) tNil)))) (tCons (tTup (tCons (tVar 12) (tCons (tOp (rIxL K) (tLst (tCons (tC (.str "ask")) (tCons (tC (.str "answer")) tNil))) (tCB rInt1 (tCons (tOp rEq (tVar 13) (tC (.str "ask"))) tNil))) (tCons (tVar 14) tNil)))) tNil))) (tOp (rI0 fun i j => .int (i - j)) (tVar 2) (tC (.int 3)))) (gName 15))
  (tRet (tTup (tCons (tCall S_law_with [] E0 (tCons (tVar 3) (tCons (tVar 11) (tCons (tVar 15) tNil)))) (tCons (tVar 4) (tCons (tVar 5) tNil)))))))) tNext)
  (tSeq (tIfS (tTest (tOp rEq (tVar 2) (tC (.int 5)))) (tRet (tTup (tCons (tVar 3) (tCons (tVar 4) (tCons (tCall S_law_with [] E0 (tCons (tVar 5) (tCons (tVar 6) (tCons (tTup (tCons (tCB (rTupS K) (tCons (tCB (rSortedSet w) (tCons (tCB (rSetTI w K) (tCons (tOp (rCatA K) (tVar 8) (tTup (tCons (tVar 7) tNil))) tNil)) tNil)) tNil)) (tCons (tVar 9) (tCons (tVar 10) tNil)))) tNil)))) tNil))))) tNext)
  (tSeq (tIfS (tTest (tOp rEq (tVar 2) (tC (.int 6)))) (tRet (tTup (tCons (tVar 3) (tCons (tVar 4) (tCons (tCall S_law_with [] E0 (tCons (tVar 5) (tCons (tVar 6) (tCons (tTup (tCons (tVar 8) (tCons (tCB (rTupS K) (tCons (tCB (rSortedSet w) (tCons (tCB (rSetTI w K) (tCons (tOp (rCatA K) (tVar 9) (tTup (tCons (tVar 7) tNil))) tNil)) tNil)) tNil)) (tCons (tVar 10) tNil)))) tNil)))) tNil))))) tNext)
  (tSeq (tIfS (tTest (tOp rEq (tVar 2) (tC (.int 7)))) (tSeq (tAsg (tCall S_law_draw [] E0 (tCons (tVar 0) (tCons (tCB (rLenS K) (tCons (tVar 4) tNil)) tNil))) (gName 15))
  (tRet (tTup (tCons (tVar 3) (tCons (tVar 4) (tCons (tOp (rCatA K) (tVar 5) (tTup (tCons (tTup (tCons (tTup (tCons (tVar 7) tNil)) (tCons (tTup (tCons (tVar 15) tNil)) (tCons (tCall S_law_draw [] E0 (tCons (tVar 0) (tCons (tC (.int 2)) tNil))) tNil)))) tNil))) tNil)))))) tNext)
  (tSeq (tIfS (tTest (tOp rEq (tVar 2) (tC (.int 8)))) (tRet (tTup (tCons (tVar 3) (tCons (tCall S_law_with [] E0 (tCons (tVar 4) (tCons (tVar 7) (tCons (tTup (tCons (tOp (rIxT K) (tOp (rIxT K) (tVar 3) (tCall S_law_draw [] E0 (tCons (tVar 0) (tCons (tCB (rLenS K) (tCons (tVar 3) tNil)) tNil)))) (tC (.int 0))) (tCons (tOp (rIxT K) (tOp (rIxT K) (tVar 4) (tVar 7)) (tC (.int 1))) tNil))) tNil)))) (tCons (tVar 5) tNil))))) tNext)
  (tRet (tTup (tCons (tVar 3) (tCons (tOp (rCatA K) (tVar 4) (tTup (tCons (tTup (tCons (tOp (rIxT K) (tOp (rIxT K) (tVar 4) (tVar 7)) (tC (.int 0))) (tCons (tCall S_law_draw [] E0 (tCons (tVar 0) (tCons (tC (.int 2)) tNil))) tNil))) tNil))) (tCons (tOp (rCatA K) (tVar 5) (tTup (tCons (tTup (tCons (tTup (tCons (tVar 7) tNil)) (tCons (tTup (tCons (tCB (rLenS K) (tCons (tVar 4) tNil)) tNil)) (tCons (tC (.int 0)) tNil)))) tNil))) tNil))))))))))))))))))
theorem b_law_spoilt {P : Program} {w : World} {K : PySem.W.Frag} {mg : Str → Option Value} {base : Heap} {S_law_draw : Sp} {S_law_with : Sp} (M : Blt mg) (c_law_draw : Cal P w K mg base 1 "_law_draw" ["_law_pen_here", "_law_many"] S_law_draw) (c_law_with : Cal P w K mg base 1 "_law_with" ["_law_some", "_law_at", "_law_one"] S_law_with) (cdv : Value) (A : Around) (outer : List Env) (s : Shared) (H : Hp) (f : Addr)
    (hr : Room 1 (A.deeper (envOfC "_law_spoilt" (defScope s_law_spoilt) s.heap.objs.size f cdv))) : PSs (cxOf CX0 P w K mg base N_law_spoilt "_law_spoilt" (defScope s_law_spoilt) f cdv A outer s H E0).nox (defBody s_law_spoilt) (t_law_spoilt w K S_law_draw S_law_with) := by
  have hu : (A.deeper (envOfC "_law_spoilt" (defScope s_law_spoilt) s.heap.objs.size f cdv)).units + 64 < cLine := hr.units
  have hu65 : (A.deeper (envOfC "_law_spoilt" (defScope s_law_spoilt) s.heap.objs.size f cdv)).units + 65 < cLine := by have := hr.un; omega
  have hu1 : (A.deeper (envOfC "_law_spoilt" (defScope s_law_spoilt) s.heap.objs.size f cdv)).units + 1 < cLine := by have := hr.un; omega
  exact
      (pss_cons (ps_set (i := 2) sc_law_spoilt.nd rfl (.inl rfl) (pe_callC c_law_draw hr (by decide) rfl (pa_cons (pv 0) (pa_cons pe_int pa_nil))))
      (pss_cons (ps_asg (pv 1) (pg_tup rfl (pgs_cons (pg_name (i := 3) sc_law_spoilt.nd rfl (.inl rfl)) (pgs_cons (pg_name (i := 4) sc_law_spoilt.nd rfl (.inl rfl)) (pgs_cons (pg_name (i := 5) sc_law_spoilt.nd rfl (.inl rfl)) pgs_nil)))))
      (pss_cons (ps_set (i := 6) sc_law_spoilt.nd rfl (.inl rfl) (pe_callC c_law_draw hr (by decide) rfl (pa_cons (pv 0) (pa_cons (pe_callB cr_len rfl M.len PySem.boot_len (pa_cons (pv 5) pa_nil)) pa_nil))))
      (pss_cons (ps_set (i := 7) sc_law_spoilt.nd rfl (.inl rfl) (pe_callC c_law_draw hr (by decide) rfl (pa_cons (pv 0) (pa_cons (pe_callB cr_len rfl M.len PySem.boot_len (pa_cons (pv 4) pa_nil)) pa_nil))))
      (pss_cons (ps_asg (pe_ix ix_tup (pv 5) (pv 6) (fun _ _ => rfl)) (pg_tup rfl (pgs_cons (pg_name (i := 8) sc_law_spoilt.nd rfl (.inl rfl)) (pgs_cons (pg_name (i := 9) sc_law_spoilt.nd rfl (.inl rfl)) (pgs_cons (pg_name (i := 10) sc_law_spoilt.nd rfl (.inl rfl)) pgs_nil)))))
      (pss_cons (ps_if (pt_cmpR op_eq (pv 2) pe_int (nomark _)) (pss_one (ps_ret (pe_tup (pa_cons (pv 3) (pa_cons (pv 4) (pa_cons (pe_op op_catA (pe_slice sl_tupA (pv 5) po_none (po_some (pv 6))) (pe_slice sl_tupA (pv 5) (po_some (pe_op op_add (pv 6) pe_int)) po_none)) pa_nil)))))) pss_nil)
      (pss_cons (ps_if (pt_cmpR op_eq (pv 2) pe_int (nomark _)) (pss_one (ps_ret (pe_tup (pa_cons (pv 3) (pa_cons (pv 4) (pa_cons (pe_callC c_law_with hr (by decide) rfl (pa_cons (pv 5) (pa_cons (pv 6) (pa_cons (pe_tup (pa_cons (pv 8) (pa_cons (pv 9) (pa_cons (pe_op op_sub pe_int (pv 10)) pa_nil)))) pa_nil)))) pa_nil)))))) pss_nil)
      (pss_cons (ps_if (pt_cmpR op_eq (pv 2) pe_int (nomark _)) (pss_one (ps_ret (pe_tup (pa_cons (pv 3) (pa_cons (pe_callC c_law_with hr (by decide) rfl (pa_cons (pv 4) (pa_cons (pv 7) (pa_cons (pe_tup (pa_cons (pe_ix ix_tup (pe_ix ix_tup (pv 4) (pv 7) (fun _ _ => rfl)) pe_int (fun _ _ => rfl)) (pa_cons (pe_op op_sub pe_int (pe_ix ix_tup (pe_ix ix_tup (pv 4) (pv 7) (fun _ _ => rfl)) pe_int (fun _ _ => rfl))) pa_nil))) pa_nil)))) (pa_cons (pv 5) pa_nil)))))) pss_nil)
      (pss_cons (ps_if (pt_cmpR op_in_seq (pv 2) (pe_tup (pa_cons pe_int (pa_cons pe_int pa_nil))) (by first | rfl | with_unfolding_all rfl)) (pss_cons (ps_set (i := 11) sc_law_spoilt.nd rfl (.inl rfl) (pe_callC c_law_draw hr (by decide) rfl (pa_cons (pv 0) (pa_cons (pe_callB cr_len rfl M.len PySem.boot_len (pa_cons (pv 3) pa_nil)) pa_nil))))
      (pss_cons (ps_asg (pe_ix ix_tup (pv 3) (pv 11) (fun _ _ => rfl)) (pg_tup rfl (pgs_cons (pg_name (i := 12) sc_law_spoilt.nd rfl (.inl rfl)) (pgs_cons (pg_name (i := 13) sc_law_spoilt.nd rfl (.inl rfl)) (pgs_cons (pg_name (i := 14) sc_law_spoilt.nd rfl (.inl rfl)) pgs_nil)))))
      (pss_cons (ps_set (i := 15) sc_law_spoilt.nd rfl (.inl rfl) (pe_ix ix_list (pe_lst (pa_cons (pe_tup (pa_cons (pv 12) (pa_cons (pv 13) (pa_cons (pe_op op_sub pe_int (pv 14)) pa_nil)))) (pa_cons (pe_tup (pa_cons (pv 12) (pa_cons (pe_ix ix_list (pe_lst (pa_cons pe_str (pa_cons pe_str pa_nil))) (pe_callTy cr_int1 rfl M.int boot_int (pa_cons (pe_cmpR op_eq (pv 13) pe_str (nomark _)) pa_nil)) (fun _ _ => rfl)) (pa_cons (pv 14) pa_nil)))) pa_nil))) (pe_op op_sub (pv 2) pe_int) (fun _ _ => rfl)))
      (pss_one (ps_ret (pe_tup (pa_cons (pe_callC c_law_with hr (by decide) rfl (pa_cons (pv 3) (pa_cons (pv 11) (pa_cons (pv 15) pa_nil)))) (pa_cons (pv 4) (pa_cons (pv 5) pa_nil))))))))) pss_nil)
      (pss_cons (ps_if (pt_cmpR op_eq (pv 2) pe_int (nomark _)) (pss_one (ps_ret (pe_tup (pa_cons (pv 3) (pa_cons (pv 4) (pa_cons (pe_callC c_law_with hr (by decide) rfl (pa_cons (pv 5) (pa_cons (pv 6) (pa_cons (pe_tup (pa_cons (pe_callTy cr_tup rfl M.tuple boot_tuple (pa_cons (pe_callB (cr_sortedSet rfl) rfl M.sorted boot_sorted (pa_cons (pe_callTy (cr_setTI rfl) rfl M.set boot_set (pa_cons (pe_op op_catA (pv 8) (pe_tup (pa_cons (pv 7) pa_nil))) pa_nil)) pa_nil)) pa_nil)) (pa_cons (pv 9) (pa_cons (pv 10) pa_nil)))) pa_nil)))) pa_nil)))))) pss_nil)
      (pss_cons (ps_if (pt_cmpR op_eq (pv 2) pe_int (nomark _)) (pss_one (ps_ret (pe_tup (pa_cons (pv 3) (pa_cons (pv 4) (pa_cons (pe_callC c_law_with hr (by decide) rfl (pa_cons (pv 5) (pa_cons (pv 6) (pa_cons (pe_tup (pa_cons (pv 8) (pa_cons (pe_callTy cr_tup rfl M.tuple boot_tuple (pa_cons (pe_callB (cr_sortedSet rfl) rfl M.sorted boot_sorted (pa_cons (pe_callTy (cr_setTI rfl) rfl M.set boot_set (pa_cons (pe_op op_catA (pv 9) (pe_tup (pa_cons (pv 7) pa_nil))) pa_nil)) pa_nil)) pa_nil)) (pa_cons (pv 10) pa_nil)))) pa_nil)))) pa_nil)))))) pss_nil)
      (pss_cons (ps_if (pt_cmpR op_eq (pv 2) pe_int (nomark _)) (pss_cons (ps_set (i := 15) sc_law_spoilt.nd rfl (.inl rfl) (pe_callC c_law_draw hr (by decide) rfl (pa_cons (pv 0) (pa_cons (pe_callB cr_len rfl M.len PySem.boot_len (pa_cons (pv 4) pa_nil)) pa_nil))))
      (pss_one (ps_ret (pe_tup (pa_cons (pv 3) (pa_cons (pv 4) (pa_cons (pe_op op_catA (pv 5) (pe_tup (pa_cons (pe_tup (pa_cons (pe_tup (pa_cons (pv 7) pa_nil)) (pa_cons (pe_tup (pa_cons (pv 15) pa_nil)) (pa_cons (pe_callC c_law_draw hr (by decide) rfl (pa_cons (pv 0) (pa_cons pe_int pa_nil))) pa_nil)))) pa_nil))) pa_nil))))))) pss_nil)
      (pss_cons (ps_if (pt_cmpR op_eq (pv 2) pe_int (nomark _)) (pss_one (ps_ret (pe_tup (pa_cons (pv 3) (pa_cons (pe_callC c_law_with hr (by decide) rfl (pa_cons (pv 4) (pa_cons (pv 7) (pa_cons (pe_tup (pa_cons (pe_ix ix_tup (pe_ix ix_tup (pv 3) (pe_callC c_law_draw hr (by decide) rfl (pa_cons (pv 0) (pa_cons (pe_callB cr_len rfl M.len PySem.boot_len (pa_cons (pv 3) pa_nil)) pa_nil))) (fun _ _ => rfl)) pe_int (fun _ _ => rfl)) (pa_cons (pe_ix ix_tup (pe_ix ix_tup (pv 4) (pv 7) (fun _ _ => rfl)) pe_int (fun _ _ => rfl)) pa_nil))) pa_nil)))) (pa_cons (pv 5) pa_nil)))))) pss_nil)
      (pss_one (ps_ret (pe_tup (pa_cons (pv 3) (pa_cons (pe_op op_catA (pv 4) (pe_tup (pa_cons (pe_tup (pa_cons (pe_ix ix_tup (pe_ix ix_tup (pv 4) (pv 7) (fun _ _ => rfl)) pe_int (fun _ _ => rfl)) (pa_cons (pe_callC c_law_draw hr (by decide) rfl (pa_cons (pv 0) (pa_cons pe_int pa_nil))) pa_nil))) pa_nil))) (pa_cons (pe_op op_catA (pv 5) (pe_tup (pa_cons (pe_tup (pa_cons (pe_tup (pa_cons (pv 7) pa_nil)) (pa_cons (pe_tup (pa_cons (pe_callB cr_len rfl M.len PySem.boot_len (pa_cons (pv 4) pa_nil)) pa_nil)) (pa_cons pe_int pa_nil)))) pa_nil))) pa_nil)))))))))))))))))))
abbrev s_law_sheet : Stmt := topS 31
abbrev N_law_sheet : List Str := ["_law_pen_here", "_law_bent", "_law_way", "_law_sheet_here", "_law_spoilt_here"]
theorem sc_law_sheet : FnScope N_law_sheet ["_law_pen_here"] (defScope s_law_sheet) := ⟨rfl, rfl, rfl, by decide +kernel, rfl, by decide +kernel, by decide +kernel⟩
def t_law_sheet (K : PySem.W.Frag) (S_law_draw : Sp) (S_law_by_choice : Sp) (S_law_of_word : Sp) (S_law_spoilt : Sp) (S_law_stands : Sp) : TS :=
  (tSeq (tAsg (tOp (rI0 fun i j => .bl (decide (j < i))) (tCall S_law_draw [] E0 (tCons (tVar 0) (tCons (tC (.int 3)) tNil))) (tC (.int 0))) (gName 1))
  (tSeq (tAsg (tCall S_law_draw [] E0 (tCons (tVar 0) (tCons (tC (.int 6)) tNil))) (gName 2))
  (tSeq (tIfS (tTest (tOp (rI0 fun i j => .bl (decide (j < i))) (tVar 2) (tC (.int 3)))) (tAsg (tCall S_law_by_choice [] E0 (tCons (tVar 0) tNil)) (gName 3)) (tAsg (tCall S_law_of_word [] E0 (tCons (tVar 0) (tCons (tOp (rIxL K) (tLst (tCons (tC (.int 0)) (tCons (tC (.int 1)) (tCons (tC (.int 2)) (tCons (tC (.int 4)) tNil))))) (tVar 2)) tNil))) (gName 3)))
  (tSeq (tAsg (tCall S_law_spoilt [] E0 (tCons (tVar 0) (tCons (tVar 3) tNil))) (gName 4))
  (tSeq (tIfS (tAnd (tB (tVar 1)) (tTest (tOp rNotNon (tCall S_law_stands [] E0 (tCons (tVar 4) (tCons (tC (.int 64)) tNil))) (tC .non)))) (tRet (tVar 4)) tNext)
  (tRet (tVar 3)))))))
theorem b_law_sheet {P : Program} {w : World} {K : PySem.W.Frag} {mg : Str → Option Value} {base : Heap} {S_law_draw : Sp} {S_law_by_choice : Sp} {S_law_of_word : Sp} {S_law_spoilt : Sp} {S_law_stands : Sp} (M : Blt mg) (c_law_draw : Cal P w K mg base 1 "_law_draw" ["_law_pen_here", "_law_many"] S_law_draw) (c_law_by_choice : Cal P w K mg base 3 "_law_by_choice" ["_law_pen_here"] S_law_by_choice) (c_law_of_word : Cal P w K mg base 3 "_law_of_word" ["_law_pen_here", "_law_way"] S_law_of_word) (c_law_spoilt : Cal P w K mg base 2 "_law_spoilt" ["_law_pen_here", "_law_sheet_here"] S_law_spoilt) (c_law_stands : Cal P w K mg base 3 "_law_stands" ["_law_sheet_here", "_law_most"] S_law_stands) (cdv : Value) (A : Around) (outer : List Env) (s : Shared) (H : Hp) (f : Addr)
    (hr : Room 3 (A.deeper (envOfC "_law_sheet" (defScope s_law_sheet) s.heap.objs.size f cdv))) : PSs (cxOf CX0 P w K mg base N_law_sheet "_law_sheet" (defScope s_law_sheet) f cdv A outer s H E0).nox (defBody s_law_sheet) (t_law_sheet K S_law_draw S_law_by_choice S_law_of_word S_law_spoilt S_law_stands) := by
  have hu : (A.deeper (envOfC "_law_sheet" (defScope s_law_sheet) s.heap.objs.size f cdv)).units + 64 < cLine := hr.units
  have hu65 : (A.deeper (envOfC "_law_sheet" (defScope s_law_sheet) s.heap.objs.size f cdv)).units + 65 < cLine := by have := hr.un; omega
  have hu1 : (A.deeper (envOfC "_law_sheet" (defScope s_law_sheet) s.heap.objs.size f cdv)).units + 1 < cLine := by have := hr.un; omega
  exact
      (pss_cons (ps_set (i := 1) sc_law_sheet.nd rfl (.inl rfl) (pe_cmpR op_gt (pe_callC c_law_draw hr (by decide) rfl (pa_cons (pv 0) (pa_cons pe_int pa_nil))) pe_int (nomark _)))
      (pss_cons (ps_set (i := 2) sc_law_sheet.nd rfl (.inl rfl) (pe_callC c_law_draw hr (by decide) rfl (pa_cons (pv 0) (pa_cons pe_int pa_nil))))
      (pss_cons (ps_if (pt_cmpR op_gt (pv 2) pe_int (nomark _)) (pss_one (ps_set (i := 3) sc_law_sheet.nd rfl (.inl rfl) (pe_callC c_law_by_choice hr (by decide) rfl (pa_cons (pv 0) pa_nil)))) (pss_one (ps_set (i := 3) sc_law_sheet.nd rfl (.inl rfl) (pe_callC c_law_of_word hr (by decide) rfl (pa_cons (pv 0) (pa_cons (pe_ix ix_list (pe_lst (pa_cons pe_int (pa_cons pe_int (pa_cons pe_int (pa_cons pe_int pa_nil))))) (pv 2) (fun _ _ => rfl)) pa_nil))))))
      (pss_cons (ps_set (i := 4) sc_law_sheet.nd rfl (.inl rfl) (pe_callC c_law_spoilt hr (by decide) rfl (pa_cons (pv 0) (pa_cons (pv 3) pa_nil))))
      (pss_cons (ps_if (PW.pt (pw_and (pt_val (pv 1)) (pw_and1 (pt_cmpR op_notNon (pe_callC c_law_stands hr (by decide) rfl (pa_cons (pv 4) (pa_cons pe_int pa_nil))) pe_non (nomark _))))) (pss_one (ps_ret (pv 4))) pss_nil)
      (pss_one (ps_ret (pv 3))))))))
abbrev s_law_leads : Stmt := topS 32
abbrev N_law_leads : List Str := ["_law_sheet_here", "_law_row", "_law_fault", "_law_stand", "_law_k"]
theorem sc_law_leads : FnScope N_law_leads ["_law_sheet_here", "_law_row", "_law_fault"] (defScope s_law_leads) := ⟨rfl, rfl, rfl, by decide +kernel, rfl, by decide +kernel, by decide +kernel⟩
def t_law_leads (K : PySem.W.Frag) (S_first_of : Sp) (S_faults_at : Sp) (S_may_turn : Sp) (S_behind : Sp) : TS :=
  (tSeq (tAsg (tCall S_first_of [] E0 (tCons (tVar 0) tNil)) (gName 3))
  (tSeq (tFor (iList K (tVar 1)) (gName 4) (tSeq (tIfS (tOr (tTest (tOp (rNeD K) (tCall S_faults_at [] E0 (tCons (tVar 0) (tCons (tVar 3) tNil))) (tLst tNil))) (tTest (tOp (rIn K true) (tVar 4) (tCall S_may_turn [] E0 (tCons (tVar 0) (tCons (tOp (rIxT K) (tVar 3) (tC (.int 0))) tNil)))))) (tRet (tC (.bl false))) tNext)
  (tAsg (tCall S_behind [] E0 (tCons (tVar 0) (tCons (tVar 3) (tCons (tVar 4) tNil)))) (gName 3))))
  (tRet (tOp (rInD K) (tVar 2) (tCall S_faults_at [] E0 (tCons (tVar 0) (tCons (tVar 3) tNil)))))))
theorem b_law_leads {P : Program} {w : World} {K : PySem.W.Frag} {mg : Str → Option Value} {base : Heap} {S_first_of : Sp} {S_faults_at : Sp} {S_may_turn : Sp} {S_behind : Sp} (M : Blt mg) (c_first_of : Cal P w K mg base 1 "first_of" ["sheet"] S_first_of) (c_faults_at : Cal P w K mg base 3 "faults_at" ["sheet", "stand"] S_faults_at) (c_may_turn : Cal P w K mg base 1 "may_turn" ["sheet", "marks"] S_may_turn) (c_behind : Cal P w K mg base 1 "behind" ["sheet", "stand", "k"] S_behind) (cdv : Value) (A : Around) (outer : List Env) (s : Shared) (H : Hp) (f : Addr)
    (hr : Room 3 (A.deeper (envOfC "_law_leads" (defScope s_law_leads) s.heap.objs.size f cdv))) : PSs (cxOf CX0 P w K mg base N_law_leads "_law_leads" (defScope s_law_leads) f cdv A outer s H E0).nox (defBody s_law_leads) (t_law_leads K S_first_of S_faults_at S_may_turn S_behind) := by
  have hu : (A.deeper (envOfC "_law_leads" (defScope s_law_leads) s.heap.objs.size f cdv)).units + 64 < cLine := hr.units
  have hu65 : (A.deeper (envOfC "_law_leads" (defScope s_law_leads) s.heap.objs.size f cdv)).units + 65 < cLine := by have := hr.un; omega
  have hu1 : (A.deeper (envOfC "_law_leads" (defScope s_law_leads) s.heap.objs.size f cdv)).units + 1 < cLine := by have := hr.un; omega
  exact
      (pss_cons (ps_set (i := 3) sc_law_leads.nd rfl (.inl rfl) (pe_callC c_first_of hr (by decide) rfl (pa_cons (pv 0) pa_nil)))
      (pss_cons (ps_for PassesOwn.never rfl (pi_list (pv 1)) (pg_name (i := 4) sc_law_leads.nd rfl (.inl rfl)) (pss_cons (ps_if (PW.pt (pw_or (pt_cmpR (op_neD hu) (pe_callC c_faults_at hr (by decide) rfl (pa_cons (pv 0) (pa_cons (pv 3) pa_nil))) (pe_lst pa_nil) (nomark _)) (pw_or1 (pt_cmpR op_notIn_seq (pv 4) (pe_callC c_may_turn hr (by decide) rfl (pa_cons (pv 0) (pa_cons (pe_ix ix_tup (pv 3) pe_int (fun _ _ => rfl)) pa_nil))) (by first | rfl | with_unfolding_all rfl))))) (pss_one (ps_ret pe_bl)) pss_nil)
      (pss_one (ps_set (i := 3) sc_law_leads.nd rfl (.inl rfl) (pe_callC c_behind hr (by decide) rfl (pa_cons (pv 0) (pa_cons (pv 3) (pa_cons (pv 4) pa_nil))))))))
      (pss_one (ps_ret (pe_cmpR (op_inD hu65) (pv 2) (pe_callC c_faults_at hr (by decide) rfl (pa_cons (pv 0) (pa_cons (pv 3) pa_nil))) (by first | rfl | with_unfolding_all rfl))))))
abbrev s_law_called : Stmt := topS 33
abbrev N_law_called : List Str := ["_law_fault", "_law_news", "_law_k"]
theorem sc_law_called : FnScope N_law_called ["_law_fault", "_law_news"] (defScope s_law_called) := ⟨rfl, rfl, rfl, by decide +kernel, rfl, by decide +kernel, by decide +kernel⟩
def t_law_called (K : PySem.W.Frag) : TS :=
  (tRet (tOp (rCatA K) (tTup (tCons (tOp (rIxT K) (tVar 0) (tC (.int 0))) tNil)) (tCB (rTupS K) (tCons (tCB (rSortedD K) (tCons (tLc (iTup K (tSl (rSlA K) (tVar 0) (tPart (tC (.int 1))) tNoPart)) (gName 2) tYes (tOp (rIxL K) (tVar 1) (tVar 2)) [2]) tNil)) tNil))))
theorem b_law_called {P : Program} {w : World} {K : PySem.W.Frag} {mg : Str → Option Value} {base : Heap} (M : Blt mg) (cdv : Value) (A : Around) (outer : List Env) (s : Shared) (H : Hp) (f : Addr)
    (hr : Room 0 (A.deeper (envOfC "_law_called" (defScope s_law_called) s.heap.objs.size f cdv))) : PSs (cxOf CX0 P w K mg base N_law_called "_law_called" (defScope s_law_called) f cdv A outer s H E0).nox (defBody s_law_called) (t_law_called K) := by
  have hu : (A.deeper (envOfC "_law_called" (defScope s_law_called) s.heap.objs.size f cdv)).units + 64 < cLine := hr.units
  have hu65 : (A.deeper (envOfC "_law_called" (defScope s_law_called) s.heap.objs.size f cdv)).units + 65 < cLine := by have := hr.un; omega
  have hu1 : (A.deeper (envOfC "_law_called" (defScope s_law_called) s.heap.objs.size f cdv)).units + 1 < cLine := by have := hr.un; omega
  exact
      (pss_one (ps_ret (pe_op op_catA (pe_tup (pa_cons (pe_ix ix_tup (pv 0) pe_int (fun _ _ => rfl)) pa_nil)) (pe_callTy cr_tup rfl M.tuple boot_tuple (pa_cons (pe_callB (cr_sortedD hu) rfl M.sorted boot_sorted (pa_cons (pe_lc (own := [("_law_k", 2)]) rfl sc_law_called.nd (pi_tup (pe_slice sl_tupA (pv 0) (po_some pe_int) po_none)) (blkOk_by (N := N_law_called) (sc := defScope s_law_called) (by decide +kernel)) (fun _ _ _ _ _ => (pg_name (i := 2) sc_law_called.nd rfl (.inl rfl))) (fun _ _ _ _ _ => pts_nil) (fun _ _ _ _ _ => (pe_ix ix_list (pv 1) (pv 2) (fun _ _ => rfl)))) pa_nil)) pa_nil)))))
abbrev s_law_alike : Stmt := topS 34
abbrev N_law_alike : List Str := ["_law_sheet_here", "_law_found", "_law_other", "_law_told", "_law_news", "_law_places", "_law_row", "_law_back", "_law_fault", "_law_moved_stands", "_law_k", "_law_marks", "_law_values", "_law_at"]
theorem sc_law_alike : FnScope N_law_alike ["_law_sheet_here", "_law_found", "_law_other", "_law_told", "_law_news", "_law_places"] (defScope s_law_alike) := ⟨rfl, rfl, rfl, by decide +kernel, rfl, by decide +kernel, by decide +kernel⟩
def t_law_alike (K : PySem.W.Frag) (S_law_called : Sp) (S_law_leads : Sp) : TS :=
  (tSeq (tIfS (tOr (tNot (tB (tCB (rIsi K) (tCons (tVar 3) (tCons (tC (.ty "tuple")) tNil))))) (tTest (tOp rNe (tOp (rIxT K) (tVar 3) (tC (.int 0))) (tOp (rIxT K) (tVar 1) (tC (.int 0)))))) (tRet (tC (.bl false))) tNext)
  (tSeq (tIfS (tTest (tOp rEq (tOp (rIxT K) (tVar 1) (tC (.int 0))) (tC (.str "fall")))) (tSeq (tAsg (tLc (iTup K (tOp (rIxT K) (tVar 1) (tC (.int 1)))) (gName 10) tYes (tOp (rIxL K) (tVar 4) (tVar 10)) [10]) (gName 6))
  (tSeq (tAsg (tLc (iTup K (tOp (rIxT K) (tVar 3) (tC (.int 1)))) (gName 10) tYes (tBM K "list" (rIndex K) (tVar 4) (tCons (tVar 10) tNil)) [10]) (gName 7))
  (tSeq (tAsg (tCall S_law_called [] E0 (tCons (tOp (rIxT K) (tVar 3) (tC (.int 2))) (tCons (tLc (iRng1 (tCons (tCB (rLenS K) (tCons (tVar 4) tNil)) tNil)) (gName 10) tYes (tBM K "list" (rIndex K) (tVar 4) (tCons (tVar 10) tNil)) [10]) tNil))) (gName 8))
  (tRet (tAndV (tCall S_law_leads [] E0 (tCons (tVar 2) (tCons (tVar 6) (tCons (tCall S_law_called [] E0 (tCons (tOp (rIxT K) (tVar 1) (tC (.int 2))) (tCons (tVar 4) tNil))) tNil)))) (tCall S_law_leads [] E0 (tCons (tVar 0) (tCons (tVar 7) (tCons (tVar 8) tNil))))))))) tNext)
  (tSeq (tAsg (tLc (iTup K (tOp (rIxT K) (tVar 1) (tC (.int 1)))) (gTup K 2 (gCons (gName 11) (gCons (gName 12) gNil))) tYes (tTup (tCons (tCB (rTupS K) (tCons (tLc (iList K (tVar 5)) (gName 13) tYes (tOp (rIxT K) (tVar 11) (tVar 13)) [13]) tNil)) (tCons (tVar 12) tNil))) [11, 12]) (gName 9))
  (tRet (tOp (rEqD K) (tOp (rIxT K) (tVar 3) (tC (.int 1))) (tCB (rTupS K) (tCons (tCB (rSortedD K) (tCons (tVar 9) tNil)) tNil)))))))
theorem b_law_alike {P : Program} {w : World} {K : PySem.W.Frag} {mg : Str → Option Value} {base : Heap} {S_law_called : Sp} {S_law_leads : Sp} (M : Blt mg) (c_law_called : Cal P w K mg base 1 "_law_called" ["_law_fault", "_law_news"] S_law_called) (c_law_leads : Cal P w K mg base 4 "_law_leads" ["_law_sheet_here", "_law_row", "_law_fault"] S_law_leads) (cdv : Value) (A : Around) (outer : List Env) (s : Shared) (H : Hp) (f : Addr)
    (hr : Room 4 (A.deeper (envOfC "_law_alike" (defScope s_law_alike) s.heap.objs.size f cdv))) : PSs (cxOf CX0 P w K mg base N_law_alike "_law_alike" (defScope s_law_alike) f cdv A outer s H E0).nox (defBody s_law_alike) (t_law_alike K S_law_called S_law_leads) := by
  have hu : (A.deeper (envOfC "_law_alike" (defScope s_law_alike) s.heap.objs.size f cdv)).units + 64 < cLine := hr.units
  have hu65 : (A.deeper (envOfC "_law_alike" (defScope s_law_alike) s.heap.objs.size f cdv)).units + 65 < cLine := by have := hr.un; omega
  have hu1 : (A.deeper (envOfC "_law_alike" (defScope s_law_alike) s.heap.objs.size f cdv)).units + 1 < cLine := by have := hr.un; omega
  exact
      (pss_cons (ps_if (PW.pt (pw_or (pt_not (pt_val (pe_callB call_isi rfl M.isinstance boot_isinstance (pa_cons (pv 3) (pa_cons (pe_bltn rfl M.tuple boot_tuple (show RelV (.ty "tuple") _ from rfl)) pa_nil))))) (pw_or1 (pt_cmpR op_ne (pe_ix ix_tup (pv 3) pe_int (fun _ _ => rfl)) (pe_ix ix_tup (pv 1) pe_int (fun _ _ => rfl)) (nomark _))))) (pss_one (ps_ret pe_bl)) pss_nil)
      (pss_cons (ps_if (pt_cmpR op_eq (pe_ix ix_tup (pv 1) pe_int (fun _ _ => rfl)) pe_str (nomark _)) (pss_cons (ps_setLc (i := 6) (own := [("_law_k", 10)]) rfl sc_law_alike.nd rfl rfl rfl (pi_tup (pe_ix ix_tup (pv 1) pe_int (fun _ _ => rfl))) (blkOk_by (N := N_law_alike) (sc := defScope s_law_alike) (by decide +kernel)) (fun _ _ _ _ _ => (pg_name (i := 10) sc_law_alike.nd rfl (.inl rfl))) (fun _ _ _ _ _ => pts_nil) (fun _ _ _ _ _ => (pe_ix ix_list (pv 4) (pv 10) (fun _ _ => rfl))))
      (pss_cons (ps_setLc (i := 7) (own := [("_law_k", 10)]) rfl sc_law_alike.nd rfl rfl rfl (pi_tup (pe_ix ix_tup (pv 3) pe_int (fun _ _ => rfl))) (blkOk_by (N := N_law_alike) (sc := defScope s_law_alike) (by decide +kernel)) (fun _ _ _ _ _ => (pg_name (i := 10) sc_law_alike.nd rfl (.inl rfl))) (fun _ _ _ _ _ => pts_nil) (fun _ _ _ _ _ => (pe_bm PySem.F.plainAttrs_list PySem.F.slot_list_index PySem.F.type_list_index mt_index (pv 4) (pa_cons (pv 10) pa_nil))))
      (pss_cons (ps_set (i := 8) sc_law_alike.nd rfl (.inl rfl) (pe_callC c_law_called hr (by decide) rfl (pa_cons (pe_ix ix_tup (pv 3) pe_int (fun _ _ => rfl)) (pa_cons (pe_lc (own := [("_law_k", 10)]) rfl sc_law_alike.nd (pi_range1 rfl M.range (pa_cons (pe_callB cr_len rfl M.len PySem.boot_len (pa_cons (pv 4) pa_nil)) pa_nil)) (blkOk_by (N := N_law_alike) (sc := defScope s_law_alike) (by decide +kernel)) (fun _ _ _ _ _ => (pg_name (i := 10) sc_law_alike.nd rfl (.inl rfl))) (fun _ _ _ _ _ => pts_nil) (fun _ _ _ _ _ => (pe_bm PySem.F.plainAttrs_list PySem.F.slot_list_index PySem.F.type_list_index mt_index (pv 4) (pa_cons (pv 10) pa_nil)))) pa_nil))))
      (pss_one (ps_ret (pe_and (pe_callC c_law_leads hr (by decide) rfl (pa_cons (pv 2) (pa_cons (pv 6) (pa_cons (pe_callC c_law_called hr (by decide) rfl (pa_cons (pe_ix ix_tup (pv 1) pe_int (fun _ _ => rfl)) (pa_cons (pv 4) pa_nil))) pa_nil)))) (pe_one (pe_callC c_law_leads hr (by decide) rfl (pa_cons (pv 0) (pa_cons (pv 7) (pa_cons (pv 8) pa_nil))))))))))) pss_nil)
      (pss_cons (ps_setLc (i := 9) (own := [("_law_marks", 11), ("_law_values", 12)]) rfl sc_law_alike.nd rfl rfl rfl (pi_tup (pe_ix ix_tup (pv 1) pe_int (fun _ _ => rfl))) (blkOk_by (N := N_law_alike) (sc := defScope s_law_alike) (by decide +kernel)) (fun _ _ _ _ _ => (pg_tup rfl (pgs_cons (pg_name (i := 11) sc_law_alike.nd rfl (.inr rfl)) (pgs_cons (pg_name (i := 12) sc_law_alike.nd rfl (.inl rfl)) pgs_nil)))) (fun _ _ _ _ _ => pts_nil) (fun _ _ _ _ _ => (pe_tup (pa_cons (pe_callTy cr_tup rfl M.tuple boot_tuple (pa_cons (pe_lc (own := [("_law_at", 13)]) rfl sc_law_alike.nd (pi_list (pv 5)) (blkOk_by (N := N_law_alike) (sc := { kind := ScopeKind.function, names := [(Str.ofString ".0", NameKind.local), (Str.ofString "_law_marks", NameKind.cell), (Str.ofString "_law_values", NameKind.local), (Str.ofString "tuple", NameKind.globalImplicit), (Str.ofString "_law_places", NameKind.cell)], isGenerator := false, isCoroutine := false }) (scope := { kind := ScopeKind.function, names := [(Str.ofString ".0", NameKind.local), (Str.ofString "_law_at", NameKind.local), (Str.ofString "_law_marks", NameKind.free)], isGenerator := false, isCoroutine := false }) (own := [("_law_at", 13)]) (by decide +kernel)) (fun _ _ _ _ _ => (pg_name (i := 13) sc_law_alike.nd rfl (.inl rfl))) (fun _ _ _ _ _ => pts_nil) (fun _ _ _ _ _ => (pe_ix ix_tup (pv 11) (pv 13) (fun _ _ => rfl)))) pa_nil)) (pa_cons (pv 12) pa_nil)))))
      (pss_one (ps_ret (pe_cmpR (op_eqD hu) (pe_ix ix_tup (pv 3) pe_int (fun _ _ => rfl)) (pe_callTy cr_tup rfl M.tuple boot_tuple (pa_cons (pe_callB (cr_sortedD hu) rfl M.sorted boot_sorted (pa_cons (pv 9) pa_nil)) pa_nil)) (nomark _)))))))
abbrev s_law : Stmt := topS 35
abbrev N_law : List Str := ["_law_script", "_law_pen_here", "_law_sheet_here", "_law_order_here", "_law_places", "_law_at", "_law_found", "_law_other", "_law_news", "_law_twice", "_law_stays"]
theorem sc_law : FnScope N_law ["_law_script"] (defScope s_law) := ⟨rfl, rfl, rfl, by decide +kernel, rfl, by decide +kernel, by decide +kernel⟩
def t_law (K : PySem.W.Frag) (S_law_pen : Sp) (S_law_sheet : Sp) (S_law_order : Sp) (S_law_draw : Sp) (S_sound : Sp) (S_law_numbered : Sp) (S_law_alike : Sp) : TS :=
  (tSeq (tAsg (tCall S_law_pen [] E0 (tCons (tVar 0) tNil)) (gName 1))
  (tSeq (tAsg (tCall S_law_sheet [] E0 (tCons (tVar 1) tNil)) (gName 2))
  (tSeq (tAsg (tCall S_law_order [] E0 (tCons (tVar 1) (tCons (tCB (rLenS K) (tCons (tOp (rIxT K) (tVar 2) (tC (.int 1))) tNil)) tNil))) (gName 3))
  (tSeq (tAsg (tCall S_law_order [] E0 (tCons (tVar 1) (tCons (tCB (rLenS K) (tCons (tOp (rIxT K) (tVar 2) (tC (.int 2))) tNil)) tNil))) (gName 4))
  (tSeq (tAsg (tCall S_law_draw [] E0 (tCons (tVar 1) (tCons (tCB (rLenS K) (tCons (tVar 4) tNil)) tNil))) (gName 5))
  (tSeq (tAsg (tCall S_sound [] E0 (tCons (tVar 2) tNil)) (gName 6))
  (tSeq (tIfS (tOr (tNot (tB (tCB (rIsi K) (tCons (tVar 6) (tCons (tC (.ty "tuple")) tNil))))) (tTest (tOp (rIn K true) (tOp (rIxT K) (tVar 6) (tC (.int 0))) (tTup (tCons (tC (.str "sound")) (tCons (tC (.str "fall")) tNil)))))) (tRet (tC (.bl false))) tNext)
  (tSeq (tAsg (tCall S_law_numbered [] E0 (tCons (tVar 2) (tCons (tVar 3) (tCons (tVar 4) tNil)))) (gTup K 2 (gCons (gName 7) (gCons (gName 8) gNil))))
  (tSeq (tIfS (tNot (tB (tCall S_law_alike [] E0 (tCons (tVar 2) (tCons (tVar 6) (tCons (tVar 7) (tCons (tCall S_sound [] E0 (tCons (tVar 7) tNil)) (tCons (tVar 8) (tCons (tVar 4) tNil))))))))) (tRet (tC (.bl false))) tNext)
  (tSeq (tAsg (tTup (tCons (tOp (rIxT K) (tVar 2) (tC (.int 0))) (tCons (tOp (rIxT K) (tVar 2) (tC (.int 1))) (tCons (tOp (rCatA K) (tOp (rIxT K) (tVar 2) (tC (.int 2))) (tTup (tCons (tOp (rIxT K) (tOp (rIxT K) (tVar 2) (tC (.int 2))) (tVar 5)) tNil))) tNil)))) (gName 9))
  (tSeq (tAsg (tLstRg (tRg1 (tCB (rLenS K) (tCons (tOp (rIxT K) (tVar 2) (tC (.int 1))) tNil)))) (gName 10))
  (tSeq (tIfS (tNot (tB (tCall S_law_alike [] E0 (tCons (tVar 2) (tCons (tVar 6) (tCons (tVar 9) (tCons (tCall S_sound [] E0 (tCons (tVar 9) tNil)) (tCons (tVar 10) (tCons (tOp rCat (tLstRg (tRg1 (tCB (rLenS K) (tCons (tVar 4) tNil)))) (tLst (tCons (tVar 5) tNil))) tNil))))))))) (tRet (tC (.bl false))) tNext)
  (tRet (tOp rEq (tOp (rIxT K) (tCall S_sound [] E0 (tCons (tVar 2) tNil)) (tC (.int 0))) (tOp (rIxT K) (tVar 6) (tC (.int 0)))))))))))))))))
theorem b_law {P : Program} {w : World} {K : PySem.W.Frag} {mg : Str → Option Value} {base : Heap} {S_law_pen : Sp} {S_law_sheet : Sp} {S_law_order : Sp} {S_law_draw : Sp} {S_sound : Sp} {S_law_numbered : Sp} {S_law_alike : Sp} (M : Blt mg) (c_law_pen : Cal P w K mg base 1 "_law_pen" ["_law_script"] S_law_pen) (c_law_sheet : Cal P w K mg base 4 "_law_sheet" ["_law_pen_here"] S_law_sheet) (c_law_order : Cal P w K mg base 2 "_law_order" ["_law_pen_here", "_law_many"] S_law_order) (c_law_draw : Cal P w K mg base 1 "_law_draw" ["_law_pen_here", "_law_many"] S_law_draw) (c_sound : Cal P w K mg base 4 "sound" ["sheet"] S_sound) (c_law_numbered : Cal P w K mg base 1 "_law_numbered" ["_law_sheet_here", "_law_order_here", "_law_places"] S_law_numbered) (c_law_alike : Cal P w K mg base 5 "_law_alike" ["_law_sheet_here", "_law_found", "_law_other", "_law_told", "_law_news", "_law_places"] S_law_alike) (cdv : Value) (A : Around) (outer : List Env) (s : Shared) (H : Hp) (f : Addr)
    (hr : Room 5 (A.deeper (envOfC "law" (defScope s_law) s.heap.objs.size f cdv))) : PSs (cxOf CX0 P w K mg base N_law "law" (defScope s_law) f cdv A outer s H E0).nox (defBody s_law) (t_law K S_law_pen S_law_sheet S_law_order S_law_draw S_sound S_law_numbered S_law_alike) := by
  have hu : (A.deeper (envOfC "law" (defScope s_law) s.heap.objs.size f cdv)).units + 64 < cLine := hr.units
  have hu65 : (A.deeper (envOfC "law" (defScope s_law) s.heap.objs.size f cdv)).units + 65 < cLine := by have := hr.un; omega
  have hu1 : (A.deeper (envOfC "law" (defScope s_law) s.heap.objs.size f cdv)).units + 1 < cLine := by have := hr.un; omega
  exact
      (pss_cons (ps_set (i := 1) sc_law.nd rfl (.inl rfl) (pe_callC c_law_pen hr (by decide) rfl (pa_cons (pv 0) pa_nil)))
      (pss_cons (ps_set (i := 2) sc_law.nd rfl (.inl rfl) (pe_callC c_law_sheet hr (by decide) rfl (pa_cons (pv 1) pa_nil)))
      (pss_cons (ps_set (i := 3) sc_law.nd rfl (.inl rfl) (pe_callC c_law_order hr (by decide) rfl (pa_cons (pv 1) (pa_cons (pe_callB cr_len rfl M.len PySem.boot_len (pa_cons (pe_ix ix_tup (pv 2) pe_int (fun _ _ => rfl)) pa_nil)) pa_nil))))
      (pss_cons (ps_set (i := 4) sc_law.nd rfl (.inl rfl) (pe_callC c_law_order hr (by decide) rfl (pa_cons (pv 1) (pa_cons (pe_callB cr_len rfl M.len PySem.boot_len (pa_cons (pe_ix ix_tup (pv 2) pe_int (fun _ _ => rfl)) pa_nil)) pa_nil))))
      (pss_cons (ps_set (i := 5) sc_law.nd rfl (.inl rfl) (pe_callC c_law_draw hr (by decide) rfl (pa_cons (pv 1) (pa_cons (pe_callB cr_len rfl M.len PySem.boot_len (pa_cons (pv 4) pa_nil)) pa_nil))))
      (pss_cons (ps_set (i := 6) sc_law.nd rfl (.inl rfl) (pe_callC c_sound hr (by decide) rfl (pa_cons (pv 2) pa_nil)))
      (pss_cons (ps_if (PW.pt (pw_or (pt_not (pt_val (pe_callB call_isi rfl M.isinstance boot_isinstance (pa_cons (pv 6) (pa_cons (pe_bltn rfl M.tuple boot_tuple (show RelV (.ty "tuple") _ from rfl)) pa_nil))))) (pw_or1 (pt_cmpR op_notIn_seq (pe_ix ix_tup (pv 6) pe_int (fun _ _ => rfl)) (pe_tup (pa_cons pe_str (pa_cons pe_str pa_nil))) (by first | rfl | with_unfolding_all rfl))))) (pss_one (ps_ret pe_bl)) pss_nil)
      (pss_cons (ps_asg (pe_callC c_law_numbered hr (by decide) rfl (pa_cons (pv 2) (pa_cons (pv 3) (pa_cons (pv 4) pa_nil)))) (pg_tup rfl (pgs_cons (pg_name (i := 7) sc_law.nd rfl (.inl rfl)) (pgs_cons (pg_name (i := 8) sc_law.nd rfl (.inl rfl)) pgs_nil))))
      (pss_cons (ps_if (pt_not (pt_val (pe_callC c_law_alike hr (by decide) rfl (pa_cons (pv 2) (pa_cons (pv 6) (pa_cons (pv 7) (pa_cons (pe_callC c_sound hr (by decide) rfl (pa_cons (pv 7) pa_nil)) (pa_cons (pv 8) (pa_cons (pv 4) pa_nil))))))))) (pss_one (ps_ret pe_bl)) pss_nil)
      (pss_cons (ps_set (i := 9) sc_law.nd rfl (.inl rfl) (pe_tup (pa_cons (pe_ix ix_tup (pv 2) pe_int (fun _ _ => rfl)) (pa_cons (pe_ix ix_tup (pv 2) pe_int (fun _ _ => rfl)) (pa_cons (pe_op op_catA (pe_ix ix_tup (pv 2) pe_int (fun _ _ => rfl)) (pe_tup (pa_cons (pe_ix ix_tup (pe_ix ix_tup (pv 2) pe_int (fun _ _ => rfl)) (pv 5) (fun _ _ => rfl)) pa_nil))) pa_nil)))))
      (pss_cons (ps_set (i := 10) sc_law.nd rfl (.inl rfl) (pe_listRg rfl rfl M.list (prg_1 rfl M.range (pe_callB cr_len rfl M.len PySem.boot_len (pa_cons (pe_ix ix_tup (pv 2) pe_int (fun _ _ => rfl)) pa_nil)))))
      (pss_cons (ps_if (pt_not (pt_val (pe_callC c_law_alike hr (by decide) rfl (pa_cons (pv 2) (pa_cons (pv 6) (pa_cons (pv 9) (pa_cons (pe_callC c_sound hr (by decide) rfl (pa_cons (pv 9) pa_nil)) (pa_cons (pv 10) (pa_cons (pe_op op_cat (pe_listRg rfl rfl M.list (prg_1 rfl M.range (pe_callB cr_len rfl M.len PySem.boot_len (pa_cons (pv 4) pa_nil)))) (pe_lst (pa_cons (pv 5) pa_nil))) pa_nil))))))))) (pss_one (ps_ret pe_bl)) pss_nil)
      (pss_one (ps_ret (pe_cmpR op_eq (pe_ix ix_tup (pe_callC c_sound hr (by decide) rfl (pa_cons (pv 2) pa_nil)) pe_int (fun _ _ => rfl)) (pe_ix ix_tup (pv 6) pe_int (fun _ _ => rfl)) (nomark _))))))))))))))))
end G

/-! ## part 13 -/
set_option Elab.async false
set_option linter.all false
set_option maxRecDepth 100000
set_option maxHeartbeats 2000000
/-! F13: derived rules. -/
namespace G
open PySem PySem.Spec PyProof.Rows L2
section
variable {Γ : List Sv} {te ta tb tc : TE} {tt tu : TT} {tas : TA} {K : PySem.W.Frag} {R : List Sv → PyData → Prop} {t u : TS} {g : TG} {gs : TGs}
  {Nx Bk Ct : List Sv → Prop} {Rt : List Sv → Sv → Prop} {i : Nat}
theorem es_new {R' : List Sv → Bool → List PyData → Prop} (h : Ew te Γ fun Γ' s => ∃ ds, s = .o (Ol ds) ∧ R' Γ' true ds) : Es te Γ R' := es_list (ed_new (h.imp fun Γ' s ⟨ds, e, r⟩ => ⟨ds, e, ds, rfl, r⟩))
theorem et_yes {R : List Sv → Bool → Prop} (q : R Γ true) : Et tYes Γ R := fun B0 H0 B σ H S Q k => k Γ true B H q S (Ex.refl _)
theorem ed_ixTc {i : Int} (ha : Ed ta Γ fun Γ1 x => ∃ ds d, x = .tuple ds ∧ atI ds i = some d ∧ R Γ1 d) : Ed (tOp (rIxT K) ta (tC (.int i))) Γ R :=
  ed_ixT (ha.imp fun Γ1 x ⟨ds, d, e, h1, h2⟩ => ⟨ds, e, ed_int ⟨i, d, rfl, h1, h2⟩⟩)
theorem ed_ixLc {i : Int} (ha : Ed ta Γ fun Γ1 x => ∃ ds d, x = .list ds ∧ atI ds i = some d ∧ R Γ1 d) : Ed (tOp (rIxL K) ta (tC (.int i))) Γ R :=
  ed_ixL (ha.imp fun Γ1 x ⟨ds, d, e, h1, h2⟩ => ⟨ds, e, ed_int ⟨i, d, rfl, h1, h2⟩⟩)
/-- an item by a slot's number -/
theorem ed_ixTv {j : Nat} {k : Int} (hj : Γ[j]? = some (.d (.int k))) (ha : Ed ta Γ fun Γ1 x => Γ1 = Γ ∧ ∃ ds d, x = .tuple ds ∧ atI ds k = some d ∧ R Γ d) : Ed (tOp (rIxT K) ta (tVar j)) Γ R :=
  ed_ixT (ha.imp fun Γ1 x ⟨e0, ds, d, e, h1, h2⟩ => by subst e0; exact ⟨ds, e, ed_var hj ⟨k, d, rfl, h1, h2⟩⟩)
theorem take_snoc {α : Type} {xs : List α} {j : Nat} {x : α} (h : xs[j]? = some x) : xs.take (j + 1) = xs.take j ++ [x] := by
  rw [List.take_add_one, h]; rfl
theorem split_at {α : Type} {xs : List α} {j : Nat} {x : α} (h : xs[j]? = some x) : xs = xs.take j ++ x :: xs.drop (j + 1) := by
  have h1 : j < xs.length := (List.getElem?_eq_some_iff.mp h).1
  have h2 : xs[j] = x := (List.getElem?_eq_some_iff.mp h).2
  rw [← h2, ← List.drop_eq_getElem_cons h1, List.take_append_drop]
/-- a for loop over coded items, by what was walked -/
theorem sw_forL {α : Type} {wi : TI} {tb : TS} (xs : List α) (enc : α → PyData) (Iv : List α → List Sv → Prop)
    (h : Iw wi Γ fun Γ1 ds => ds = xs.map enc ∧ Iv [] Γ1 ∧ (∀ pre x post Γ2, xs = pre ++ x :: post → Iv pre Γ2 → Sg g (enc x) Γ2 fun Γ3 => Sw tb Γ3 (Iv (pre ++ [x])) Rt Nx (Iv (pre ++ [x]))) ∧ ∀ Γ2, Iv xs Γ2 → Nx Γ2) : Sw (tFor wi g tb) Γ Nx Rt Bk Ct := by
  refine sw_for (fun j Γ => Iv (xs.take j) Γ) ?_
  intro B0 H0 B σ H S Q k
  refine h B0 H0 B σ H S Q fun Γ1 ds J B1 H1 hd => k Γ1 ds J B1 H1 ?_
  obtain ⟨rfl, h0, hs, he⟩ := hd
  refine ⟨h0, fun j d Γ2 hd iv => ?_, fun Γ2 iv => he Γ2 ?_⟩
  · rw [List.getElem?_map] at hd
    cases q : xs[j]? with
    | none => rw [q] at hd; cases hd
    | some x =>
      rw [q] at hd
      cases hd
      have := hs (xs.take j) x (xs.drop (j + 1)) Γ2 (split_at q) iv
      rw [take_snoc q]
      exact this
  · have : Iv (xs.take (xs.map enc).length) Γ2 := iv
    rw [List.length_map, List.take_length] at this
    exact this
theorem ew_lcL {α : Type} {R : List Sv → Sv → Prop} {wi : TI} {vs : List Nat} (xs : List α) (enc : α → PyData) (Iv : List α → List Sv → List PyData → Prop) (mon : MonG g) (tch : Tch g vs)
    (h : Iw wi Γ fun Γ1 ds => ds = xs.map enc ∧ xs.length ≤ sizeLine ∧ Iv [] (wipeG Γ1 vs) [] ∧
      (∀ pre x post Γ2 acc, xs = pre ++ x :: post → Iv pre Γ2 acc → Sg g (enc x) Γ2 fun Γ3 => Et tt Γ3 fun Γ4 b => (b = true → Ed te Γ4 fun Γ5 y => Iv (pre ++ [x]) (wipeG Γ5 vs) (acc ++ [y])) ∧ (b = false → Iv (pre ++ [x]) (wipeG Γ4 vs) acc)) ∧
      ∀ Γ2 acc, Iv xs Γ2 acc → R (rst Γ1 Γ2 vs) (.o (Ol acc))) : Ew (tLc wi g tt te vs) Γ R := by
  refine ew_lc (fun j Γ acc => Iv (xs.take j) Γ acc) mon tch ?_
  intro B0 H0 B σ H S Q k
  refine h B0 H0 B σ H S Q fun Γ1 ds J B1 H1 hd => k Γ1 ds J B1 H1 ?_
  obtain ⟨rfl, hz, h0, hs, he⟩ := hd
  refine ⟨by rw [List.length_map]; exact hz, h0, fun j d Γ2 acc hd iv => ?_, fun Γ2 acc iv => he Γ2 acc ?_⟩
  · rw [List.getElem?_map] at hd
    cases q : xs[j]? with
    | none => rw [q] at hd; cases hd
    | some x =>
      rw [q] at hd
      cases hd
      have := hs (xs.take j) x (xs.drop (j + 1)) Γ2 acc (split_at q) iv
      rw [take_snoc q]
      exact this
  · have : Iv (xs.take (xs.map enc).length) Γ2 acc := iv
    rw [List.length_map, List.take_length] at this
    exact this
/-- [e for x in xs if c], nothing else touched -/
theorem ew_lcMg {α : Type} {R : List Sv → Sv → Prop} {wi : TI} {vs : List Nat} {Γ1 : List Sv} (xs : List α) (enc : α → PyData) (f : α → Option PyData) (mon : MonG g) (tch : Tch g vs)
    (h : Iw wi Γ fun Γ' ds => Γ' = Γ1 ∧ ds = xs.map enc ∧ xs.length ≤ sizeLine)
    (hs : ∀ x ∈ xs, Sg g (enc x) (wipeG Γ1 vs) fun Γ3 => Et tt Γ3 fun Γ4 b => (b = true → Ed te Γ4 fun Γ5 y => wipeG Γ5 vs = wipeG Γ1 vs ∧ f x = some y) ∧ (b = false → wipeG Γ4 vs = wipeG Γ1 vs ∧ f x = none))
    (hr : R (rst Γ1 (wipeG Γ1 vs) vs) (.o (Ol (xs.filterMap f)))) : Ew (tLc wi g tt te vs) Γ R := by
  refine ew_lcL xs enc (fun pre Γ acc => Γ = wipeG Γ1 vs ∧ acc = pre.filterMap f) mon tch ?_
  intro B0 H0 B σ H S Q k
  refine h B0 H0 B σ H S Q fun Γ' ds J B1 H1 hd => k Γ' ds J B1 H1 ?_
  obtain ⟨rfl, rfl, hz⟩ := hd
  refine ⟨rfl, hz, ⟨rfl, rfl⟩, fun pre x post Γ2 acc e iv => ?_, fun Γ2 acc iv => ?_⟩
  · obtain ⟨rfl, rfl⟩ := iv
    have hx : x ∈ xs := by rw [e]; exact List.mem_append_right _ List.mem_cons_self
    intro B0 H0 B σ H v S hv Q k
    refine hs x hx B0 H0 B σ H v S hv Q fun Γ3 B3 σ3 H3 h3 => k Γ3 B3 σ3 H3 ?_
    intro B0 H0 B σ H S Q k
    refine h3 B0 H0 B σ H S Q fun Γ4 b B4 H4 h4 => k Γ4 b B4 H4 ⟨fun hb => ?_, fun hb => ?_⟩
    · exact (h4.1 hb).imp fun Γ5 y ⟨e1, e2⟩ => ⟨e1, by rw [List.filterMap_append, List.filterMap_cons, e2]; rfl⟩
    · obtain ⟨e1, e2⟩ := h4.2 hb
      exact ⟨e1, by rw [List.filterMap_append, List.filterMap_cons, e2]; simp⟩
  · obtain ⟨rfl, rfl⟩ := iv
    exact hr
/-- [e for x in xs] -/
theorem ew_lc1g {α : Type} {R : List Sv → Sv → Prop} {wi : TI} {vs : List Nat} {Γ1 : List Sv} (xs : List α) (enc : α → PyData) (f : α → PyData) (mon : MonG g) (tch : Tch g vs)
    (h : Iw wi Γ fun Γ' ds => Γ' = Γ1 ∧ ds = xs.map enc ∧ xs.length ≤ sizeLine)
    (hs : ∀ x ∈ xs, Sg g (enc x) (wipeG Γ1 vs) fun Γ3 => Ed te Γ3 fun Γ5 y => wipeG Γ5 vs = wipeG Γ1 vs ∧ y = f x)
    (hr : R (rst Γ1 (wipeG Γ1 vs) vs) (.o (Ol (xs.map f)))) : Ew (tLc wi g tYes te vs) Γ R := by
  refine ew_lcMg xs enc (fun x => some (f x)) mon tch h (fun x hx => ?_) (by rw [List.filterMap_eq_map']; exact hr)
  intro B0 H0 B σ H v S hv Q k
  refine hs x hx B0 H0 B σ H v S hv Q fun Γ3 B3 σ3 H3 h3 => k Γ3 B3 σ3 H3 ?_
  exact et_yes ⟨fun _ => h3.imp fun Γ5 y ⟨e1, e2⟩ => ⟨e1, by rw [e2]⟩, fun z => nomatch z⟩
theorem ew_lcM {α : Type} {R : List Sv → Sv → Prop} {wi : TI} {vs : List Nat} (xs : List α) (enc : α → PyData) (f : α → Option PyData) (mon : MonG g) (tch : Tch g vs)
    (h : Iw wi Γ fun Γ' ds => Γ' = Γ ∧ ds = xs.map enc ∧ xs.length ≤ sizeLine)
    (hs : ∀ x ∈ xs, Sg g (enc x) (wipeG Γ vs) fun Γ3 => Et tt Γ3 fun Γ4 b => (b = true → Ed te Γ4 fun Γ5 y => wipeG Γ5 vs = wipeG Γ vs ∧ f x = some y) ∧ (b = false → wipeG Γ4 vs = wipeG Γ vs ∧ f x = none))
    (hr : R (rst Γ (wipeG Γ vs) vs) (.o (Ol (xs.filterMap f)))) : Ew (tLc wi g tt te vs) Γ R := ew_lcMg xs enc f mon tch h hs hr
theorem ew_lc1 {α : Type} {R : List Sv → Sv → Prop} {wi : TI} {vs : List Nat} (xs : List α) (enc : α → PyData) (f : α → PyData) (mon : MonG g) (tch : Tch g vs)
    (h : Iw wi Γ fun Γ' ds => Γ' = Γ ∧ ds = xs.map enc ∧ xs.length ≤ sizeLine)
    (hs : ∀ x ∈ xs, Sg g (enc x) (wipeG Γ vs) fun Γ3 => Ed te Γ3 fun Γ5 y => wipeG Γ5 vs = wipeG Γ vs ∧ y = f x)
    (hr : R (rst Γ (wipeG Γ vs) vs) (.o (Ol (xs.map f)))) : Ew (tLc wi g tYes te vs) Γ R := ew_lc1g xs enc f mon tch h hs hr
theorem zipD_map {α β : Type} (xs : List α) (ys : List β) (f : α → PyData) (g : β → PyData) : zipD (xs.map f) (ys.map g) = (xs.zip ys).map fun p => .tuple [f p.1, g p.2] := by
  unfold zipD
  rw [List.zip_map, List.map_map]
  rfl
theorem enumD_map {α : Type} (xs : List α) (f : α → PyData) : enumD (xs.map f) = xs.zipIdx.map fun p => PyData.tuple [.int (p.2 : Nat), f p.1] := by
  unfold enumD
  apply List.ext_getElem?
  intro j
  simp [List.getElem?_mapIdx, List.getElem?_zipIdx]
  cases xs[j]? <;> simp
theorem atI_ofNat {α : Type} {xs : List α} {i : Nat} {x : α} (h : xs[i]? = some x) : atI xs (i : Int) = some x := by rw [atI_nat]; exact h
theorem atI_map {α β : Type} {xs : List α} {i : Int} {x : α} (f : α → β) (h : atI xs i = some x) : atI (xs.map f) i = some (f x) := by
  unfold atI at h ⊢
  rw [List.length_map]
  obtain ⟨j, h1, h2⟩ := Option.bind_eq_some_iff.mp h
  rw [h1]
  show (xs.map f)[j]? = _
  rw [List.getElem?_map, h2]
  rfl
end
theorem lt_r {n m : Nat} (h : Nat.ble (n + 1) m = true) : n < m := Nat.le_of_ble_eq_true h
theorem small {n m : Nat} (h : n ≤ m) (hm : m ≤ 5000000 := by decide) : n ≤ sizeLine := by rw [sizeLine_eq]; omega
theorem smallr {n : Nat} (h : Nat.ble n 1000 = true) : n ≤ sizeLine := small (m := 1000) (Nat.le_of_ble_eq_true h)
theorem mon2 {K : PySem.W.Frag} {n i j : Nat} : MonG (gTup K n (gCons (gName i) (gCons (gName j) gNil))) := mon_tup (mons_cons mon_name (mons_cons mon_name mons_nil))
theorem mon3 {K : PySem.W.Frag} {n i j k : Nat} : MonG (gTup K n (gCons (gName i) (gCons (gName j) (gCons (gName k) gNil)))) := mon_tup (mons_cons mon_name (mons_cons mon_name (mons_cons mon_name mons_nil)))
theorem tch1 {i : Nat} : Tch (gName i) [i] := tch_name (by simp)
theorem tch2 {K : PySem.W.Frag} {n i j : Nat} : Tch (gTup K n (gCons (gName i) (gCons (gName j) gNil))) [i, j] :=
  tch_tup (tchs_cons mon_name (mons_cons mon_name mons_nil) (tch_name (by simp)) (tchs_cons mon_name mons_nil (tch_name (by simp)) tchs_nil))
theorem tch3 {K : PySem.W.Frag} {n i j k : Nat} : Tch (gTup K n (gCons (gName i) (gCons (gName j) (gCons (gName k) gNil)))) [i, j, k] :=
  tch_tup (tchs_cons mon_name (mons_cons mon_name (mons_cons mon_name mons_nil)) (tch_name (by simp)) (tchs_cons mon_name (mons_cons mon_name mons_nil) (tch_name (by simp)) (tchs_cons mon_name mons_nil (tch_name (by simp)) tchs_nil)))
end G
namespace G
open PySem PySem.Spec PyProof.Rows L2
section
variable {Γ : List Sv} {te ta tb tc : TE} {tt tu : TT} {tas : TA} {K : PySem.W.Frag} {R : List Sv → PyData → Prop} {t u : TS} {g : TG} {gs : TGs}
  {Nx Bk Ct : List Sv → Prop} {Rt : List Sv → Sv → Prop} {i : Nat}
theorem sw_cut (M : List Sv → Prop) (h1 : Sw t Γ M Rt Bk Ct) (h2 : ∀ Γ1, M Γ1 → Sw u Γ1 Nx Rt Bk Ct) : Sw (tSeq t u) Γ Nx Rt Bk Ct := sw_seq (h1.imp h2)
theorem Et.imp {R R' : List Sv → Bool → Prop} (h : Et tt Γ R) (f : ∀ Γ' d, R Γ' d → R' Γ' d) : Et tt Γ R' := fun B0 H0 B σ H S Q q => h B0 H0 B σ H S Q fun Γ' d B' H' hr => q Γ' d B' H' (f _ _ hr)
/-- a test by its truth value -/
theorem et_is {R : List Sv → Bool → Prop} (v : Bool) (h : Et tt Γ fun Γ' b => Γ' = Γ ∧ b = v) (q : R Γ v) : Et tt Γ R := h.imp fun Γ' b ⟨e1, e2⟩ => by subst e1 e2; exact q
theorem sw_ifV (v : Bool) (h : Et tt Γ fun Γ' b => Γ' = Γ ∧ b = v) (h1 : v = true → Sw t Γ Nx Rt Bk Ct) (h2 : v = false → Sw u Γ Nx Rt Bk Ct) : Sw (tIfS tt t u) Γ Nx Rt Bk Ct := sw_if (et_is v h ⟨h1, h2⟩)
theorem et_andV (v1 v2 : Bool) (h1 : Et tt Γ fun Γ' b => Γ' = Γ ∧ b = v1) (h2 : v1 = true → Et tu Γ fun Γ' b => Γ' = Γ ∧ b = v2) : Et (tAnd tt tu) Γ fun Γ' b => Γ' = Γ ∧ b = (v1 && v2) :=
  et_and (et_is v1 h1 ⟨fun e => (h2 e).imp fun Γ' b ⟨e1, e2⟩ => ⟨e1, by rw [e, e2]; rfl⟩, fun e => ⟨rfl, by rw [e]; rfl⟩⟩)
theorem et_orV (v1 v2 : Bool) (h1 : Et tt Γ fun Γ' b => Γ' = Γ ∧ b = v1) (h2 : v1 = false → Et tu Γ fun Γ' b => Γ' = Γ ∧ b = v2) : Et (tOr tt tu) Γ fun Γ' b => Γ' = Γ ∧ b = (v1 || v2) :=
  et_or (et_is v1 h1 ⟨fun e => (h2 e).imp fun Γ' b ⟨e1, e2⟩ => ⟨e1, by rw [e, e2]; rfl⟩, fun e => ⟨rfl, by rw [e]; rfl⟩⟩)
theorem et_notV (v : Bool) (h : Et tt Γ fun Γ' b => Γ' = Γ ∧ b = v) : Et (tNot tt) Γ fun Γ' b => Γ' = Γ ∧ b = !v := et_not (h.imp fun Γ' b ⟨e1, e2⟩ => ⟨e1, by rw [e2]⟩)
theorem ixN_of {n : Nat} {k : Int} (h0 : 0 ≤ k) (h1 : k < n) : ixN n k = some k.toNat := by
  unfold ixN
  rw [if_pos h0, if_pos h1]
theorem ixN_nat {n k : Nat} (h1 : k < n) : ixN n (k : Int) = some k := by
  rw [ixN_of (by omega) (by omega)]; simp
theorem atI_of {α : Type} {xs : List α} {k : Int} {x : α} (h0 : 0 ≤ k) (h : xs[k.toNat]? = some x) : atI xs k = some x := by
  have : k = ((k.toNat : Nat) : Int) := by omega
  rw [this, atI_nat]; exact h
/-- a for loop over coded items, by place -/
theorem sw_forJ {α : Type} {wi : TI} {tb : TS} (xs : List α) (enc : α → PyData) (Iv : Nat → List Sv → Prop)
    (h : Iw wi Γ fun Γ1 ds => ds = xs.map enc ∧ Iv 0 Γ1 ∧ (∀ j x Γ2, xs[j]? = some x → Iv j Γ2 → Sg g (enc x) Γ2 fun Γ3 => Sw tb Γ3 (Iv (j + 1)) Rt Nx (Iv (j + 1))) ∧ ∀ Γ2, Iv xs.length Γ2 → Nx Γ2) : Sw (tFor wi g tb) Γ Nx Rt Bk Ct := by
  refine sw_for Iv ?_
  intro B0 H0 B σ H S Q k
  refine h B0 H0 B σ H S Q fun Γ1 ds J B1 H1 hd => k Γ1 ds J B1 H1 ?_
  obtain ⟨rfl, h0, hs, he⟩ := hd
  refine ⟨h0, fun j d Γ2 hd iv => ?_, fun Γ2 iv => he Γ2 (by rw [List.length_map] at iv; exact iv)⟩
  rw [List.getElem?_map] at hd
  cases q : xs[j]? with
  | none => rw [q] at hd; cases hd
  | some x =>
    rw [q] at hd
    cases hd
    exact hs j x Γ2 q iv
/-- over enumerate -/
theorem sw_forE {α : Type} {wi : TI} {tb : TS} (xs : List α) (enc : α → PyData) (Iv : Nat → List Sv → Prop)
    (h : Iw wi Γ fun Γ1 ds => ds = enumD (xs.map enc) ∧ Iv 0 Γ1 ∧ (∀ (j : Nat) x Γ2, xs[j]? = some x → Iv j Γ2 → Sg g (.tuple [.int (j : Int), enc x]) Γ2 fun Γ3 => Sw tb Γ3 (Iv (j + 1)) Rt Nx (Iv (j + 1))) ∧ ∀ Γ2, Iv xs.length Γ2 → Nx Γ2) : Sw (tFor wi g tb) Γ Nx Rt Bk Ct := by
  refine sw_for Iv ?_
  intro B0 H0 B σ H S Q k
  refine h B0 H0 B σ H S Q fun Γ1 ds J B1 H1 hd => k Γ1 ds J B1 H1 ?_
  obtain ⟨rfl, h0, hs, he⟩ := hd
  refine ⟨h0, fun j d Γ2 hd iv => ?_, fun Γ2 iv => he Γ2 (by rw [enumD_len, List.length_map] at iv; exact iv)⟩
  obtain ⟨e, he, rfl⟩ := enumD_get hd
  rw [List.getElem?_map] at he
  cases q : xs[j]? with
  | none => rw [q] at he; cases he
  | some x =>
    rw [q] at he
    cases he
    exact hs j x Γ2 q iv
theorem set_mid {α : Type} : ∀ (A : List α) (m y : α) (r : List α), (A ++ m :: r).set A.length y = A ++ y :: r
  | [], _, _, _ => rfl
  | a :: A, m, y, r => by
    show a :: ((A ++ m :: r).set A.length y) = _
    rw [set_mid A]; rfl
/-- a list rewritten from the left -/
def rew {α β : Type} (zs : List (α × β)) (bs : List β) (f : α × β → β) (j : Nat) : List β := (zs.take j).map f ++ bs.drop j
theorem rew_zero {α β : Type} (zs : List (α × β)) (bs : List β) (f : α × β → β) : rew zs bs f 0 = bs := by simp [rew]
theorem rew_len {α β : Type} {zs : List (α × β)} {bs : List β} {f : α × β → β} (h : zs.length = bs.length) (j : Nat) : (rew zs bs f j).length = bs.length := by
  simp [rew]; omega
theorem rew_end {α β : Type} {zs : List (α × β)} {bs : List β} {f : α × β → β} (h : zs.length = bs.length) {j : Nat} (hj : j = zs.length) : rew zs bs f j = zs.map f := by
  subst hj
  unfold rew
  rw [List.take_length, h, List.drop_length, List.append_nil]
theorem rew_set {α β : Type} {zs : List (α × β)} {bs : List β} {f : α × β → β} (h : zs.length = bs.length) {j : Nat} {p : α × β} (hp : zs[j]? = some p) : (rew zs bs f j).set j (f p) = rew zs bs f (j + 1) := by
  have hj : j < zs.length := (List.getElem?_eq_some_iff.mp hp).1
  unfold rew
  rw [take_snoc hp, List.drop_eq_getElem_cons (by omega : j < bs.length)]
  have e : ((zs.take j).map f).length = j := by simp; omega
  have := set_mid ((zs.take j).map f) bs[j] (f p) (bs.drop (j + 1))
  rw [e] at this
  rw [this]
  simp
theorem rew_same {α β : Type} {zs : List (α × β)} {bs : List β} {f : α × β → β} (h : zs.length = bs.length) {j : Nat} {p : α × β} (hp : zs[j]? = some p) (hb : bs[j]? = some (f p)) : rew zs bs f (j + 1) = rew zs bs f j := by
  have hj : j < zs.length := (List.getElem?_eq_some_iff.mp hp).1
  have hb' : bs[j]'(by omega) = f p := (List.getElem?_eq_some_iff.mp hb).2
  unfold rew
  rw [take_snoc hp, List.drop_eq_getElem_cons (by omega : j < bs.length), hb']
  simp
theorem zip_get {α β : Type} {xs : List α} {ys : List β} (h : ys.length = xs.length) {j : Nat} {x : α} (hx : xs[j]? = some x) : ∃ y, ys[j]? = some y ∧ (xs.zip ys)[j]? = some (x, y) := by
  have hj : j < xs.length := (List.getElem?_eq_some_iff.mp hx).1
  refine ⟨ys[j]'(by omega), List.getElem?_eq_getElem (by omega), ?_⟩
  rw [List.getElem?_zip_eq_some]
  exact ⟨hx, List.getElem?_eq_getElem (by omega)⟩
theorem rg_set {α : Type} (n : Nat) (f : Nat → α) (k : Nat) (y : α) : ((List.range n).map f).set k y = (List.range n).map fun j => if j = k then y else f j := by
  apply List.ext_getElem?
  intro j
  by_cases hj : j < n
  · by_cases hk : k = j
    · subst hk
      rw [List.getElem?_set_self (by simpa using hj)]
      simp [hj]
    · rw [List.getElem?_set_ne hk]
      have : ¬ j = k := fun z => hk z.symm
      simp [hj, this]
  · rw [List.getElem?_eq_none (by simp; omega), List.getElem?_eq_none (by simp; omega)]
end
end G

/-! ## part 14 -/
set_option Elab.async false
set_option linter.all false
set_option maxRecDepth 100000
set_option maxHeartbeats 2000000
/-! F14: sheets in plain Lean. -/
namespace G
open PySem PySem.Spec PyProof.Rows L2
structure Wire where
  name : Str
  side : Str
  val : Int
structure Trn where
  name : Str
  way : Int
structure Spot where
  bf : List Int
  bh : List Int
  mark : Int
structure Sheet where
  wires : List Wire
  turns : List Trn
  spots : List Spot
def intsD (ns : List Int) : PyData := .tuple (ns.map .int)
def Wire.D (x : Wire) : PyData := .tuple [.str x.name, .str x.side, .int x.val]
def Trn.D (x : Trn) : PyData := .tuple [.str x.name, .int x.way]
def Spot.D (x : Spot) : PyData := .tuple [.tuple (x.bf.map .int), .tuple (x.bh.map .int), .int x.mark]
def Sheet.D (S : Sheet) : PyData := .tuple [.tuple (S.wires.map Wire.D), .tuple (S.turns.map Trn.D), .tuple (S.spots.map Spot.D)]
/-- what every sheet keeps: the numbers are turns' numbers, the turns' names are wires' names; its size -/
structure Ok (S : Sheet) : Prop where
  bf : ∀ p ∈ S.spots, ∀ k ∈ p.bf, 0 ≤ k ∧ k < S.turns.length
  bh : ∀ p ∈ S.spots, ∀ k ∈ p.bh, 0 ≤ k ∧ k < S.turns.length
  bfl : ∀ p ∈ S.spots, p.bf.length ≤ 20
  bhl : ∀ p ∈ S.spots, p.bh.length ≤ 20
  nm : ∀ t ∈ S.turns, ∃ x ∈ S.wires, x.name = t.name
  val : ∀ x ∈ S.wires, x.val = 0 ∨ x.val = 1
  way : ∀ t ∈ S.turns, t.way = 0 ∨ t.way = 1
  mark : ∀ p ∈ S.spots, p.mark = 0 ∨ p.mark = 1
  tn : S.turns.length ≤ 20
  size : S.spots.length + S.wires.length ≤ 22
  sn : 1 ≤ S.spots.length
/-- a stand of the sheet -/
structure Sok (S : Sheet) (s : Stand) : Prop where
  ml : s.1.length = S.spots.length
  vl : s.2.length = S.wires.length
  m : ∀ x ∈ s.1, x = 0 ∨ x = 1
  v : ∀ x ∈ s.2, x = 0 ∨ x = 1
def first (S : Sheet) : Stand := (S.spots.map (·.mark), S.wires.map (·.val))
def may (S : Sheet) (ms : List Int) (k : Int) : Bool := (S.spots.zip ms).all fun p => !(decide (p.2 = 0) && decide (k ∈ p.1.bh))
def mays (S : Sheet) (ms : List Int) : List Int := ((List.range S.turns.length).map fun (j : Nat) => (j : Int)).filter (may S ms)
def turnAt (S : Sheet) (k : Int) : Trn := S.turns[k.toNat]?.getD ⟨Str.empty, 0⟩
def behM (S : Sheet) (ms : List Int) (k : Int) : List Int := (S.spots.zip ms).map fun p => if k ∈ p.1.bf then 1 else if k ∈ p.1.bh then 0 else p.2
def behV (S : Sheet) (vs : List Int) (k : Int) : List Int := (S.wires.zip vs).map fun p => if p.1.name = (turnAt S k).name then (turnAt S k).way else p.2
def beh (S : Sheet) (s : Stand) (k : Int) : Stand := (behM S s.1 k, behV S s.2 k)
def taken (S : Sheet) (j k : Int) : Bool := S.spots.any fun p => decide (j ∈ p.bh) && decide (k ∈ p.bh)
def askOf : List Wire → Str → Bool
  | [], _ => false
  | x :: r, n => if x.name = n then decide (x.side = "ask") else askOf r n
def ask (S : Sheet) (k : Int) : Bool := askOf S.wires (turnAt S k).name
def crowd (S : Sheet) (ms : List Int) (k : Int) : Bool := (S.spots.zip ms).any fun p => decide (p.2 = 1) && decide (k ∈ p.1.bf) && !decide (k ∈ p.1.bh)
def valOf : List (Wire × Int) → Str → Option Int
  | [], _ => none
  | x :: r, n => if x.1.name = n then some x.2 else valOf r n
def value (S : Sheet) (vs : List Int) (n : Str) : Option Int := valOf (S.wires.zip vs) n
def optD : Option Int → PyData
  | none => .none
  | some i => .int i
abbrev Fault := Str × List Int
abbrev fC (j k : Int) : Fault := (Str.ofString "choice", [j, k])
abbrev fT (j k : Int) : Fault := (Str.ofString "twice", [j, k])
abbrev fR (k : Int) : Fault := (Str.ofString "crowd", [k])
abbrev fW (k : Int) : Fault := (Str.ofString "way", [k])
abbrev fE : Fault := (Str.ofString "end", [])
def Fault.D (f : Fault) : PyData := .tuple (.str f.1 :: f.2.map .int)
/-- the faults at a stand -/
inductive IsF (S : Sheet) (s : Stand) : Fault → Prop
  | choice (j k : Int) : may S s.1 j = true → may S s.1 k = true → 0 ≤ j → j < k → k < S.turns.length → taken S j k = true → ¬(ask S j = true ∧ ask S k = true) → IsF S s (fC j k)
  | twice (j k : Int) : may S s.1 j = true → may S s.1 k = true → 0 ≤ j → j < k → k < S.turns.length → (turnAt S j).name = (turnAt S k).name → IsF S s (fT j k)
  | crowd (k : Int) : may S s.1 k = true → 0 ≤ k → k < S.turns.length → crowd S s.1 k = true → IsF S s (fR k)
  | way (k : Int) : may S s.1 k = true → 0 ≤ k → k < S.turns.length → value S s.2 (turnAt S k).name = some (turnAt S k).way → IsF S s (fW k)
  | fin : (∀ k : Int, 0 ≤ k → k < S.turns.length → may S s.1 k = false) → IsF S s fE
end G

/-! ## part 15 -/
set_option Elab.async false
set_option linter.all false
set_option maxRecDepth 100000
set_option maxHeartbeats 2000000
namespace G
open PySem PySem.Spec PyProof.Rows L2
def S_first_of (ds : List PyData) (R : Sv → Prop) : Prop := ∃ S, Ok S ∧ ds = [S.D] ∧ R (.d (sD (first S)))
theorem w_first_of {K : PySem.W.Frag} (ds : List PyData) (R : Sv → Prop) (hl : ds.length = 1) (h : S_first_of ds R) :
    Sw (t_first_of K) (ds.map Sv.d ++ List.replicate (N_first_of.length - 1) .no) (fun _ => R (.d .none)) (fun _ s => R s) (fun _ => False) (fun _ => False) := by
  obtain ⟨S, ok, rfl, r⟩ := h
  have hz := ok.size
  unfold t_first_of
  show Sw _ [.d S.D, .no, .no] _ _ _ _
  refine sw_retd (ed_tup (ea_cons (ed_tupC (es_new (ew_lc1 S.spots Spot.D (fun p => .int p.mark) mon_name tch1 ?_ ?_ ?_)))))
  · refine iw_tup (ed_ixTc (ed_var rfl ⟨_, _, rfl, rfl, _, rfl, rfl, rfl, small (m := 22) (by omega)⟩))
  · refine fun p hp => sg_name (lt_r rfl) (ed_ixTc (ed_var rfl ⟨_, _, rfl, rfl, rfl, rfl⟩))
  refine ⟨_, rfl, rfl, ea_cons (ed_tupC (es_new (ew_lc1 S.wires Wire.D (fun p => .int p.val) mon_name tch1 ?_ ?_ ?_)))⟩
  · refine iw_tup (ed_ixTc (ed_var rfl ⟨_, _, rfl, rfl, _, rfl, rfl, rfl, small (m := 22) (by omega)⟩))
  · refine fun p hp => sg_name (lt_r rfl) (ed_ixTc (ed_var rfl ⟨_, _, rfl, rfl, rfl, rfl⟩))
  refine ⟨_, rfl, rfl, ea_nil ⟨smallr rfl, ?_⟩⟩
  have e : sD (first S) = .tuple [.tuple (S.spots.map fun p => .int p.mark), .tuple (S.wires.map fun p => .int p.val)] := by
    unfold sD first
    simp
  rw [← e]
  exact r

/-! ### may_turn -/
def zpD (p : Spot × Int) : PyData := .tuple [p.1.D, .int p.2]
def wpD (p : Wire × Int) : PyData := .tuple [p.1.D, .int p.2]
theorem range_filter (n : Nat) (b : Nat → Bool) (m : Int → Bool) (h : ∀ j, j < n → m (j : Int) = !b j) : (List.range n).filterMap (fun j => if b j = true then none else some (PyData.int (j : Int))) = (((List.range n).map fun (j : Nat) => (j : Int)).filter m).map PyData.int := by
  have aux : ∀ xs : List Nat, (∀ j ∈ xs, m (j : Int) = !b j) → xs.filterMap (fun j => if b j = true then none else some (PyData.int (j : Int))) = ((xs.map fun (j : Nat) => (j : Int)).filter m).map PyData.int := by
    intro xs
    induction xs with
    | nil => intro _; rfl
    | cons x xs ih =>
      intro h
      have hx := h x List.mem_cons_self
      have ih' := ih fun j hj => h j (List.mem_cons_of_mem _ hj)
      rw [List.filterMap_cons, List.map_cons, List.filter_cons]
      cases hb : b x with
      | true => rw [hb] at hx; simp [hx, ih']
      | false => rw [hb] at hx; simp [hx, ih']
  exact aux _ fun j hj => h j (List.mem_range.mp hj)
def barred (pre : List (Spot × Int)) (j : Nat) : Bool := pre.any fun p => decide (p.2 = 0) && decide ((j : Int) ∈ p.1.bh)
theorem may_barred (S : Sheet) (ms : List Int) (j : Nat) : may S ms (j : Int) = !barred (S.spots.zip ms) j := by
  unfold may barred
  rw [List.not_any_eq_all_not]
theorem Ok.bh_at {S : Sheet} (ok : Ok S) {ms : List Int} {p : Spot × Int} (h : p ∈ S.spots.zip ms) : ∀ k ∈ p.1.bh, 0 ≤ k ∧ k < S.turns.length := ok.bh p.1 (List.of_mem_zip h).1
def S_may_turn (ds : List PyData) (R : Sv → Prop) : Prop := ∃ S ms, Ok S ∧ ds = [S.D, .tuple (ms.map PyData.int)] ∧ R (.o (Ol ((mays S ms).map PyData.int)))
theorem w_may_turn {K : PySem.W.Frag} (ds : List PyData) (R : Sv → Prop) (hl : ds.length = 2) (h : S_may_turn ds R) :
    Sw (t_may_turn K) (ds.map Sv.d ++ List.replicate (N_may_turn.length - 2) .no) (fun _ => R (.d .none)) (fun _ s => R s) (fun _ => False) (fun _ => False) := by
  obtain ⟨S, ms, ok, rfl, r⟩ := h
  have hz := ok.size
  have ht := ok.tn
  unfold t_may_turn
  show Sw _ [.d S.D, .d (.tuple (ms.map PyData.int)), .no, .no, .no, .no, .no] _ _ _ _
  refine sw_seq (sw_setO (ew_lc1 S.turns Trn.D (fun _ => .bool false) mon_name tch1 ?_ ?_ ?_))
  · refine iw_tup (ed_ixTc (ed_var rfl ⟨_, _, rfl, rfl, _, rfl, rfl, rfl, small (m := 22) (by omega)⟩))
  · refine fun p hp => sg_name (lt_r rfl) (ed_bl ⟨rfl, rfl⟩)
  refine ⟨_, rfl, lt_r rfl, ?_⟩
  refine sw_seq (sw_forL (S.spots.zip ms) zpD (fun pre Γ => ∃ s3 s4 s5, Γ = [.d S.D, .d (.tuple (ms.map PyData.int)), .o (Ol ((List.range S.turns.length).map fun j => PyData.bool (barred pre j))), s3, s4, s5, .no]) ?_)
  refine iw_zip (ea_cons (ed_ixTc (ed_var rfl ⟨_, _, rfl, rfl, ea_cons (ed_var rfl (ea_nil ⟨_, _, .inr rfl, ?_⟩))⟩)))
  refine ⟨zipD_map _ _ _ _, ⟨.no, .no, .no, ?_⟩, fun pre p post Γ2 e iv => ?_, fun Γ2 iv => ?_⟩
  · show [Sv.d S.D, .d (.tuple (ms.map PyData.int)), .o (Ol (S.turns.map fun _ => PyData.bool false)), .no, .no, .no, .no] = _
    have e : (S.turns.map fun _ => PyData.bool false) = (List.range S.turns.length).map fun j => PyData.bool (barred [] j) := by
      apply List.ext_getElem?
      intro j
      by_cases hj : j < S.turns.length
      · simp [hj, barred]
      · rw [List.getElem?_eq_none (by simp; omega), List.getElem?_eq_none (by simp; omega)]
    rw [e]
  · obtain ⟨s3, s4, s5, rfl⟩ := iv
    have hp : p ∈ S.spots.zip ms := by rw [e]; simp
    refine sg_tup ⟨_, rfl, rfl, sgs_cons (sg_name (lt_r rfl) (sgs_cons (sg_name (lt_r rfl) (sgs_nil ?_))))⟩
    show Sw _ [.d S.D, .d (.tuple (ms.map PyData.int)), .o (Ol _), .d p.1.D, .d (.int p.2), s5, .no] _ _ _ _
    refine sw_if (et_test (ed_eq (ed_var rfl (ed_int ⟨_, .int _ _, _, rfl, fun hb => ?_, fun hb => ?_⟩))))
    · refine sw_forL p.1.bh PyData.int (fun q Γ => ∃ s5, Γ = [.d S.D, .d (.tuple (ms.map PyData.int)), .o (Ol ((List.range S.turns.length).map fun j => PyData.bool (barred pre j || decide ((j : Int) ∈ q)))), .d p.1.D, .d (.int p.2), s5, .no]) ?_
      refine iw_tup (ed_ixTc (ed_var rfl ⟨_, _, rfl, rfl, _, rfl, rfl, ⟨s5, ?_⟩, fun q k q2 Γ3 e2 iv => ?_, fun Γ3 iv => ?_⟩))
      · simp
      · obtain ⟨s5, rfl⟩ := iv
        have hk := ok.bh_at hp k (by rw [e2]; simp)
        refine sg_name (lt_r rfl) (sw_sub (ed_bl ⟨⟨_, rfl⟩, ed_var rfl ⟨_, _, k.toNat, k, rfl, rfl, ixN_of hk.1 (by simpa using hk.2), .d (.int k), ?_⟩⟩))
        rw [rg_set]
        have e3 : ((List.range S.turns.length).map fun j => if j = k.toNat then PyData.bool true else PyData.bool (barred pre j || decide ((j : Int) ∈ q))) = (List.range S.turns.length).map fun j => PyData.bool (barred pre j || decide ((j : Int) ∈ q ++ [k])) := by
          refine List.map_congr_left fun j hj => ?_
          by_cases c : j = k.toNat
          · have : (j : Int) = k := by omega
            rw [if_pos c]; simp [this]
          · have : ¬ (j : Int) = k := by omega
            rw [if_neg c]; simp [this]
        rw [e3]
        rfl
      · obtain ⟨s5, rfl⟩ := iv
        refine ⟨.d p.1.D, .d (.int p.2), s5, ?_⟩
        have e3 : ((List.range S.turns.length).map fun j => PyData.bool (barred pre j || decide ((j : Int) ∈ p.1.bh))) = (List.range S.turns.length).map fun j => PyData.bool (barred (pre ++ [p]) j) := by
          refine List.map_congr_left fun j hj => ?_
          have : p.2 = 0 := by simpa using hb
          simp [barred, this]
        rw [e3]
    · refine sw_next ⟨.d p.1.D, .d (.int p.2), s5, ?_⟩
      have e3 : ((List.range S.turns.length).map fun j => PyData.bool (barred pre j)) = (List.range S.turns.length).map fun j => PyData.bool (barred (pre ++ [p]) j) := by
        refine List.map_congr_left fun j hj => ?_
        have : ¬ p.2 = 0 := by simpa using hb
        simp [barred, this]
      rw [e3]
  · obtain ⟨s3, s4, s5, rfl⟩ := iv
    refine sw_ret (ew_lcM (List.range S.turns.length) (fun j => PyData.int (j : Int)) (fun j => if barred (S.spots.zip ms) j = true then none else some (PyData.int (j : Int))) mon_name tch1 ?_ (fun j hj => ?_) ?_)
    · refine iw_rng (ea_cons (ed_len (es_own rfl (ea_nil ⟨S.turns.length, by simp, by omega, rfl, rfl, small (m := 22) (by simp; omega)⟩))))
    · have hj' := List.mem_range.mp hj
      refine sg_name (lt_r rfl) (et_not (et_B (ed_ixO ⟨_, rfl⟩ (ed_var rfl ⟨_, _, j, .bool (barred (S.spots.zip ms) j), rfl, rfl, atI_ofNat (by simp [hj']), _, rfl, fun hb => ?_, fun hb => ?_⟩))))
      · have hb' : barred (S.spots.zip ms) j = false := by simpa using hb
        exact ed_var rfl ⟨rfl, by rw [hb']; rfl⟩
      · have hb' : barred (S.spots.zip ms) j = true := by simpa using hb
        exact ⟨rfl, by rw [hb']; rfl⟩
    · rw [range_filter _ _ (may S ms) fun j _ => may_barred S ms j]
      exact r

/-! ### behind -/
theorem map_set_int (xs : List Int) (j : Nat) (y : Int) : (xs.map PyData.int).set j (.int y) = (xs.set j y).map PyData.int := by rw [List.map_set]
def S_behind (ds : List PyData) (R : Sv → Prop) : Prop := ∃ S s, ∃ k : Int, Ok S ∧ Sok S s ∧ 0 ≤ k ∧ k < S.turns.length ∧ ds = [S.D, sD s, .int k] ∧ R (.d (sD (beh S s k)))
theorem turnAt_get {S : Sheet} {k : Int} (h0 : 0 ≤ k) (h1 : k < S.turns.length) : S.turns[k.toNat]? = some (turnAt S k) := by
  unfold turnAt
  rw [List.getElem?_eq_getElem (by omega)]
  rfl
theorem turn_at {S : Sheet} {k : Int} (h0 : 0 ≤ k) (h1 : k < S.turns.length) : atI (S.turns.map Trn.D) k = some (turnAt S k).D := atI_map _ (atI_of h0 (turnAt_get h0 h1))
theorem w_behind {K : PySem.W.Frag} (ds : List PyData) (R : Sv → Prop) (hl : ds.length = 3) (h : S_behind ds R) :
    Sw (t_behind K) (ds.map Sv.d ++ List.replicate (N_behind.length - 3) .no) (fun _ => R (.d .none)) (fun _ s => R s) (fun _ => False) (fun _ => False) := by
  obtain ⟨S, s, k, ok, so, hk0, hk1, rfl, r⟩ := h
  have hz := ok.size
  have z1 : (S.spots.zip s.1).length = s.1.length := by rw [List.length_zip, so.ml]; omega
  have z2 : (S.wires.zip s.2).length = s.2.length := by rw [List.length_zip, so.vl]; omega
  unfold t_behind
  show Sw _ [.d S.D, .d (sD s), .d (.int k), .no, .no, .no, .no, .no, .no, .no] _ _ _ _
  refine sw_seq (sw_setO (ew_list (es_tup (ed_ixTc (ed_var rfl ⟨_, _, rfl, rfl, _, rfl, _, rfl, lt_r rfl, ?_⟩)))))
  refine sw_seq (sw_forE S.spots Spot.D (fun j Γ => ∃ s4 s5, Γ = [.d S.D, .d (sD s), .d (.int k), .o (Ol ((rew (S.spots.zip s.1) s.1 (fun p => if k ∈ p.1.bf then 1 else if k ∈ p.1.bh then 0 else p.2) j).map PyData.int)), s4, s5, .no, .no, .no, .no]) ?_)
  refine iw_enumT (ea_cons (ed_ixTc (ed_var rfl ⟨_, _, rfl, rfl, ea_nil ⟨_, rfl, rfl, ⟨.no, .no, by rw [rew_zero]; rfl⟩, fun j p Γ2 hj iv => ?_, fun Γ2 iv => ?_⟩⟩)))
  · obtain ⟨s4, s5, rfl⟩ := iv
    obtain ⟨m, hm, hzj⟩ := zip_get so.ml hj
    have hjl : j < s.1.length := (List.getElem?_eq_some_iff.mp hm).1
    refine sg_tup ⟨_, rfl, rfl, sgs_cons (sg_name (lt_r rfl) (sgs_cons (sg_name (lt_r rfl) (sgs_nil ?_))))⟩
    refine sw_if (et_test (ed_in (ed_var rfl (ed_ixTc (ed_var rfl ⟨_, _, rfl, rfl, _, .intT _ _, _, rfl, fun hb => ?_, fun hb => ?_⟩)))))
    · have hb' : k ∈ p.bf := by simpa using hb
      refine sw_sub (ed_int ⟨⟨_, rfl⟩, ed_var rfl ⟨_, _, j, _, rfl, rfl, ixN_nat (by rw [List.length_map, rew_len z1]; exact hjl), .d (.int (j : Int)), .d p.D, ?_⟩⟩)
      have e := rew_set (f := fun p : Spot × Int => if k ∈ p.1.bf then (1 : Int) else if k ∈ p.1.bh then 0 else p.2) z1 hzj
      rw [if_pos hb'] at e
      rw [map_set_int, e]
      rfl
    · have hb' : ¬ k ∈ p.bf := by simpa using hb
      refine sw_if (et_test (ed_in (ed_var rfl (ed_ixTc (ed_var rfl ⟨_, _, rfl, rfl, _, .intT _ _, _, rfl, fun hc => ?_, fun hc => ?_⟩)))))
      · have hc' : k ∈ p.bh := by simpa using hc
        refine sw_sub (ed_int ⟨⟨_, rfl⟩, ed_var rfl ⟨_, _, j, _, rfl, rfl, ixN_nat (by rw [List.length_map, rew_len z1]; exact hjl), .d (.int (j : Int)), .d p.D, ?_⟩⟩)
        have e := rew_set (f := fun p : Spot × Int => if k ∈ p.1.bf then (1 : Int) else if k ∈ p.1.bh then 0 else p.2) z1 hzj
        rw [if_neg hb', if_pos hc'] at e
        rw [map_set_int, e]
        rfl
      · have hc' : ¬ k ∈ p.bh := by simpa using hc
        refine sw_next ⟨.d (.int (j : Int)), .d p.D, ?_⟩
        have e := rew_same (f := fun p : Spot × Int => if k ∈ p.1.bf then (1 : Int) else if k ∈ p.1.bh then 0 else p.2) z1 hzj (by rw [if_neg hb', if_neg hc']; exact hm)
        rw [e]
        rfl
  · obtain ⟨s4, s5, rfl⟩ := iv
    rw [rew_end z1 (by rw [z1, so.ml])]
    refine sw_seq (sw_setO (ew_list (es_tup (ed_ixTc (ed_var rfl ⟨_, _, rfl, rfl, _, rfl, _, rfl, lt_r rfl, ?_⟩)))))
    refine sw_seq (sw_asg (ed_ixTv rfl (ed_ixTc (ed_var rfl ⟨_, _, rfl, rfl, rfl, _, _, rfl, turn_at hk0 hk1, ?_⟩))))
    refine sg_tup ⟨_, rfl, rfl, sgs_cons (sg_name (lt_r rfl) (sgs_cons (sg_name (lt_r rfl) (sgs_nil ?_))))⟩
    refine sw_seq (sw_forE S.wires Wire.D (fun j Γ => ∃ s4 s9, Γ = [.d S.D, .d (sD s), .d (.int k), .o (Ol ((behM S s.1 k).map PyData.int)), s4, s5, .o (Ol ((rew (S.wires.zip s.2) s.2 (fun p => if p.1.name = (turnAt S k).name then (turnAt S k).way else p.2) j).map PyData.int)), .d (.str (turnAt S k).name), .d (.int (turnAt S k).way), s9]) ?_)
    refine iw_enumT (ea_cons (ed_ixTc (ed_var rfl ⟨_, _, rfl, rfl, ea_nil ⟨_, rfl, rfl, ⟨s4, .no, by rw [rew_zero]; rfl⟩, fun j p Γ2 hj iv => ?_, fun Γ2 iv => ?_⟩⟩)))
    · obtain ⟨s4, s9, rfl⟩ := iv
      obtain ⟨m, hm, hzj⟩ := zip_get so.vl hj
      have hjl : j < s.2.length := (List.getElem?_eq_some_iff.mp hm).1
      refine sg_tup ⟨_, rfl, rfl, sgs_cons (sg_name (lt_r rfl) (sgs_cons (sg_name (lt_r rfl) (sgs_nil ?_))))⟩
      refine sw_if (et_test (ed_eq (ed_ixTc (ed_var rfl ⟨_, _, rfl, rfl, ed_var rfl ⟨_, .str _ _, _, rfl, fun hb => ?_, fun hb => ?_⟩⟩))))
      · have hb' : p.name = (turnAt S k).name := by simpa using hb
        refine sw_sub (ed_var rfl ⟨⟨_, rfl⟩, ed_var rfl ⟨_, _, j, _, rfl, rfl, ixN_nat (by rw [List.length_map, rew_len z2]; exact hjl), .d (.int (j : Int)), .d p.D, ?_⟩⟩)
        have e := rew_set (f := fun p : Wire × Int => if p.1.name = (turnAt S k).name then (turnAt S k).way else p.2) z2 hzj
        rw [if_pos hb'] at e
        rw [map_set_int, e]
        rfl
      · have hb' : ¬ p.name = (turnAt S k).name := by simpa using hb
        refine sw_next ⟨.d (.int (j : Int)), .d p.D, ?_⟩
        have e := rew_same (f := fun p : Wire × Int => if p.1.name = (turnAt S k).name then (turnAt S k).way else p.2) z2 hzj (by rw [if_neg hb']; exact hm)
        rw [e]
        rfl
    · obtain ⟨s4, s9, rfl⟩ := iv
      rw [rew_end z2 (by rw [z2, so.vl])]
      refine sw_retd (ed_tup (ea_cons (ed_tupC (es_own rfl ⟨rfl, ea_cons (ed_tupC (es_own rfl ⟨rfl, ea_nil ⟨smallr rfl, r⟩⟩))⟩))))

/-! ### both_taken, is_ask, is_crowd, value_of -/
def S_both_taken (ds : List PyData) (R : Sv → Prop) : Prop := ∃ S j k, Ok S ∧ ds = [S.D, .int j, .int k] ∧ R (.d (.bool (taken S j k)))
theorem w_both_taken {K : PySem.W.Frag} (ds : List PyData) (R : Sv → Prop) (hl : ds.length = 3) (h : S_both_taken ds R) :
    Sw (t_both_taken K) (ds.map Sv.d ++ List.replicate (N_both_taken.length - 3) .no) (fun _ => R (.d .none)) (fun _ s => R s) (fun _ => False) (fun _ => False) := by
  obtain ⟨S, j, k, ok, rfl, r⟩ := h
  unfold t_both_taken
  show Sw _ [.d S.D, .d (.int j), .d (.int k), .no] _ _ _ _
  refine sw_seq (sw_forL S.spots Spot.D (fun pre Γ => (pre.any fun p => decide (j ∈ p.bh) && decide (k ∈ p.bh)) = false ∧ ∃ s3, Γ = [.d S.D, .d (.int j), .d (.int k), s3]) ?_)
  refine iw_tup (ed_ixTc (ed_var rfl ⟨_, _, rfl, rfl, _, rfl, rfl, ⟨rfl, .no, rfl⟩, fun pre p post Γ2 e iv => ?_, fun Γ2 iv => ?_⟩))
  · obtain ⟨hn, s3, rfl⟩ := iv
    refine sg_name (lt_r rfl) (sw_if (et_and (et_test (ed_in (ed_var rfl (ed_ixTc (ed_var rfl ⟨_, _, rfl, rfl, _, .intT _ _, _, rfl, fun hb => ?_, fun hb => ?_⟩)))))))
    · have hb' : j ∈ p.bh := by simpa using hb
      refine et_test (ed_in (ed_var rfl (ed_ixTc (ed_var rfl ⟨_, _, rfl, rfl, _, .intT _ _, _, rfl, fun hc => ?_, fun hc => ?_⟩))))
      · have hc' : k ∈ p.bh := by simpa using hc
        refine sw_retd (ed_bl ?_)
        have : taken S j k = true := by
          unfold taken
          rw [e]
          simp [hb', hc']
        rw [this] at r
        exact r
      · have hc' : ¬ k ∈ p.bh := by simpa using hc
        exact sw_next ⟨by rw [List.any_append, hn]; simp [hc'], .d p.D, rfl⟩
    · have hb' : ¬ j ∈ p.bh := by simpa using hb
      exact ⟨fun z => Bool.noConfusion z, fun _ => sw_next ⟨by rw [List.any_append, hn]; simp [hb'], .d p.D, rfl⟩⟩
  · obtain ⟨hn, s3, rfl⟩ := iv
    refine sw_retd (ed_bl ?_)
    have : taken S j k = false := hn
    rw [this] at r
    exact r
theorem askOf_append (n : Str) : ∀ (pre post : List Wire), (∀ x ∈ pre, x.name ≠ n) → askOf (pre ++ post) n = askOf post n
  | [], _, _ => rfl
  | x :: pre, post, h => by
    show (if x.name = n then _ else askOf (pre ++ post) n) = _
    rw [if_neg (h x List.mem_cons_self), askOf_append n pre post fun y hy => h y (List.mem_cons_of_mem _ hy)]
def S_is_ask (ds : List PyData) (R : Sv → Prop) : Prop := ∃ S, ∃ k : Int, Ok S ∧ 0 ≤ k ∧ k < S.turns.length ∧ ds = [S.D, .int k] ∧ R (.d (.bool (ask S k)))
theorem w_is_ask {K : PySem.W.Frag} (ds : List PyData) (R : Sv → Prop) (hl : ds.length = 2) (h : S_is_ask ds R) :
    Sw (t_is_ask K) (ds.map Sv.d ++ List.replicate (N_is_ask.length - 2) .no) (fun _ => R (.d .none)) (fun _ s => R s) (fun _ => False) (fun _ => False) := by
  obtain ⟨S, k, ok, hk0, hk1, rfl, r⟩ := h
  unfold t_is_ask
  show Sw _ [.d S.D, .d (.int k), .no] _ _ _ _
  refine sw_seq (sw_forL S.wires Wire.D (fun pre Γ => (∀ x ∈ pre, x.name ≠ (turnAt S k).name) ∧ ∃ s3, Γ = [.d S.D, .d (.int k), s3]) ?_)
  refine iw_tup (ed_ixTc (ed_var rfl ⟨_, _, rfl, rfl, _, rfl, rfl, ⟨by simp, .no, rfl⟩, fun pre p post Γ2 e iv => ?_, fun Γ2 iv => ?_⟩))
  · obtain ⟨hn, s3, rfl⟩ := iv
    refine sg_name (lt_r rfl) (sw_if (et_test (ed_eq (ed_ixTc (ed_var rfl ⟨_, _, rfl, rfl, ed_ixTc (ed_ixTv rfl (ed_ixTc (ed_var rfl ⟨_, _, rfl, rfl, rfl, _, _, rfl, turn_at hk0 hk1, _, _, rfl, rfl, _, .str _ _, _, rfl, fun hb => ?_, fun hb => ?_⟩)))⟩)))))
    · have hb' : p.name = (turnAt S k).name := by simpa using hb
      refine sw_retd (ed_eq (ed_ixTc (ed_var rfl ⟨_, _, rfl, rfl, ed_str ⟨_, .str _ _, ?_⟩⟩)))
      have : ask S k = decide (p.side = "ask") := by
        unfold ask
        rw [e, askOf_append _ pre _ hn]
        show (if p.name = _ then _ else _) = _
        rw [if_pos hb']
      rw [this] at r
      exact r
    · have hb' : ¬ p.name = (turnAt S k).name := by simpa using hb
      refine sw_next ⟨fun x hx => ?_, .d p.D, rfl⟩
      rcases List.mem_append.mp hx with hx | hx
      · exact hn x hx
      · have : x = p := by simpa using hx
        rw [this]; exact hb'
  · obtain ⟨hn, s3, rfl⟩ := iv
    refine sw_retd (ed_bl ?_)
    have : ask S k = false := by
      unfold ask
      have := askOf_append (turnAt S k).name S.wires [] hn
      rw [List.append_nil] at this
      rw [this]
      rfl
    rw [this] at r
    exact r
def S_is_crowd (ds : List PyData) (R : Sv → Prop) : Prop := ∃ S ms k, Ok S ∧ ds = [S.D, .tuple (ms.map PyData.int), .int k] ∧ R (.d (.bool (crowd S ms k)))
theorem w_is_crowd {K : PySem.W.Frag} (ds : List PyData) (R : Sv → Prop) (hl : ds.length = 3) (h : S_is_crowd ds R) :
    Sw (t_is_crowd K) (ds.map Sv.d ++ List.replicate (N_is_crowd.length - 3) .no) (fun _ => R (.d .none)) (fun _ s => R s) (fun _ => False) (fun _ => False) := by
  obtain ⟨S, ms, k, ok, rfl, r⟩ := h
  unfold t_is_crowd
  show Sw _ [.d S.D, .d (.tuple (ms.map PyData.int)), .d (.int k), .no, .no] _ _ _ _
  refine sw_seq (sw_forL (S.spots.zip ms) zpD (fun pre Γ => (pre.any fun p => decide (p.2 = 1) && decide (k ∈ p.1.bf) && !decide (k ∈ p.1.bh)) = false ∧ ∃ s3 s4, Γ = [.d S.D, .d (.tuple (ms.map PyData.int)), .d (.int k), s3, s4]) ?_)
  refine iw_zip (ea_cons (ed_ixTc (ed_var rfl ⟨_, _, rfl, rfl, ea_cons (ed_var rfl (ea_nil ⟨_, _, .inr rfl, zipD_map _ _ _ _, ⟨rfl, .no, .no, rfl⟩, fun pre p post Γ2 e iv => ?_, fun Γ2 iv => ?_⟩))⟩)))
  · obtain ⟨hn, s3, s4, rfl⟩ := iv
    refine sg_tup ⟨_, rfl, rfl, sgs_cons (sg_name (lt_r rfl) (sgs_cons (sg_name (lt_r rfl) (sgs_nil ?_))))⟩
    refine sw_if (et_and (et_test (ed_eq (ed_var rfl (ed_int ⟨_, .int _ _, _, rfl, fun ha => et_and (et_test (ed_in (ed_var rfl (ed_ixTc (ed_var rfl ⟨_, _, rfl, rfl, _, .intT _ _, _, rfl, fun hb => ?_, fun hb => ?_⟩))))), fun ha => ?_⟩)))))
    · refine et_test (ed_in (ed_var rfl (ed_ixTc (ed_var rfl ⟨_, _, rfl, rfl, _, .intT _ _, _, rfl, fun hc => ?_, fun hc => ?_⟩))))
      · refine sw_retd (ed_bl ?_)
        have : crowd S ms k = true := by
          have ha' : p.2 = 1 := by simpa using ha
          have hb' : k ∈ p.1.bf := by simpa using hb
          have hc' : ¬ k ∈ p.1.bh := by simpa using hc
          unfold crowd
          rw [e]
          simp [ha', hb', hc']
        rw [this] at r
        exact r
      · have hc' : k ∈ p.1.bh := by simpa using hc
        exact sw_next ⟨by rw [List.any_append, hn]; simp [hc'], .d p.1.D, .d (.int p.2), rfl⟩
    · have hb' : ¬ k ∈ p.1.bf := by simpa using hb
      exact ⟨fun z => Bool.noConfusion z, fun _ => sw_next ⟨by rw [List.any_append, hn]; simp [hb'], .d p.1.D, .d (.int p.2), rfl⟩⟩
    · have ha' : ¬ p.2 = 1 := by simpa using ha
      exact ⟨fun z => Bool.noConfusion z, fun _ => sw_next ⟨by rw [List.any_append, hn]; simp [ha'], .d p.1.D, .d (.int p.2), rfl⟩⟩
  · obtain ⟨hn, s3, s4, rfl⟩ := iv
    refine sw_retd (ed_bl ?_)
    have : crowd S ms k = false := hn
    rw [this] at r
    exact r
theorem valOf_append (n : Str) : ∀ (pre post : List (Wire × Int)), (∀ x ∈ pre, x.1.name ≠ n) → valOf (pre ++ post) n = valOf post n
  | [], _, _ => rfl
  | x :: pre, post, h => by
    show (if x.1.name = n then _ else valOf (pre ++ post) n) = _
    rw [if_neg (h x List.mem_cons_self), valOf_append n pre post fun y hy => h y (List.mem_cons_of_mem _ hy)]
def S_value_of (ds : List PyData) (R : Sv → Prop) : Prop := ∃ S vs n, Ok S ∧ ds = [S.D, .tuple (vs.map PyData.int), .str n] ∧ R (.d (optD (value S vs n)))
theorem w_value_of {K : PySem.W.Frag} (ds : List PyData) (R : Sv → Prop) (hl : ds.length = 3) (h : S_value_of ds R) :
    Sw (t_value_of K) (ds.map Sv.d ++ List.replicate (N_value_of.length - 3) .no) (fun _ => R (.d .none)) (fun _ s => R s) (fun _ => False) (fun _ => False) := by
  obtain ⟨S, vs, n, ok, rfl, r⟩ := h
  unfold t_value_of
  show Sw _ [.d S.D, .d (.tuple (vs.map PyData.int)), .d (.str n), .no, .no] _ _ _ _
  refine sw_seq (sw_forL (S.wires.zip vs) wpD (fun pre Γ => (∀ x ∈ pre, x.1.name ≠ n) ∧ ∃ s3 s4, Γ = [.d S.D, .d (.tuple (vs.map PyData.int)), .d (.str n), s3, s4]) ?_)
  refine iw_zip (ea_cons (ed_ixTc (ed_var rfl ⟨_, _, rfl, rfl, ea_cons (ed_var rfl (ea_nil ⟨_, _, .inr rfl, zipD_map _ _ _ _, ⟨by simp, .no, .no, rfl⟩, fun pre p post Γ2 e iv => ?_, fun Γ2 iv => ?_⟩))⟩)))
  · obtain ⟨hn, s3, s4, rfl⟩ := iv
    refine sg_tup ⟨_, rfl, rfl, sgs_cons (sg_name (lt_r rfl) (sgs_cons (sg_name (lt_r rfl) (sgs_nil ?_))))⟩
    refine sw_if (et_test (ed_eq (ed_ixTc (ed_var rfl ⟨_, _, rfl, rfl, ed_var rfl ⟨_, .str _ _, _, rfl, fun hb => ?_, fun hb => ?_⟩⟩))))
    · have hb' : p.1.name = n := by simpa using hb
      refine sw_retd (ed_var rfl ?_)
      have : value S vs n = some p.2 := by
        unfold value
        rw [e, valOf_append _ pre _ hn]
        show (if p.1.name = _ then _ else _) = _
        rw [if_pos hb']
      rw [this] at r
      exact r
    · have hb' : ¬ p.1.name = n := by simpa using hb
      refine sw_next ⟨fun x hx => ?_, .d p.1.D, .d (.int p.2), rfl⟩
      rcases List.mem_append.mp hx with hx | hx
      · exact hn x hx
      · have : x = p := by simpa using hx
        rw [this]; exact hb'
  · obtain ⟨hn, s3, s4, rfl⟩ := iv
    refine sw_retd (ed_non ?_)
    have : value S vs n = none := by
      unfold value
      have := valOf_append n (S.wires.zip vs) [] hn
      rw [List.append_nil] at this
      rw [this]
      rfl
    rw [this] at r
    exact r
end G

/-! ## part 16 -/
set_option Elab.async false
set_option linter.all false
set_option maxRecDepth 100000
set_option maxHeartbeats 2000000
namespace G
open PySem PySem.Spec PyProof.Rows L2
/-! ### data: alike, depth, shaped -/
theorem alike_ints : ∀ xs ys : List Int, PySem.W.alikeAll (xs.map PyData.int) (ys.map PyData.int) = true
  | [], _ => by simp [PySem.W.alikeAll]
  | _ :: _, [] => by simp [PySem.W.alikeAll]
  | x :: xs, y :: ys => by simp [PySem.W.alikeAll, PySem.W.alike, alike_ints xs ys]
theorem alike_stand (s t : Stand) : PySem.W.alike (sD s) (sD t) = true := by
  simp [sD, PySem.W.alike, PySem.W.alikeAll, alike_ints]
theorem alike_fault (f g : Fault) : PySem.W.alike f.D g.D = true := by
  simp [Fault.D, PySem.W.alike, PySem.W.alikeAll, alike_ints]
theorem depth_ints : ∀ xs : List Int, PyData.depthAll (xs.map PyData.int) = 0
  | [] => by simp [PyData.depthAll]
  | x :: xs => by simp [PyData.depthAll, PyData.depth, depth_ints xs]
theorem lay_ints : ∀ xs : List Int, PyData.canLayAll0 (xs.map PyData.int) = true
  | [] => by simp [PyData.canLayAll0]
  | x :: xs => by simp [PyData.canLayAll0, PyData.canLay0, lay_ints xs]
theorem depth_stand (s : Stand) : (sD s).depth ≤ 40 := by
  simp [sD, PyData.depth, PyData.depthAll, depth_ints]
theorem depth_fault (f : Fault) : f.D.depth ≤ 40 := by
  simp [Fault.D, PyData.depth, PyData.depthAll, depth_ints]
theorem shaped_ints (xs : List Int) : SeqAt.shaped (.list (xs.map PyData.int)) = true := by
  simp [SeqAt.shaped, PyData.canLay0, lay_ints, PyData.depth, depth_ints]
theorem shaped_nil : SeqAt.shaped (.list []) = true := by decide
theorem eqv_nil (ds : List PyData) : PyData.eqv (.list ds) (.list []) = ds.isEmpty := by
  cases ds <;> simp [PyData.eqv, PyData.eqvAll]
theorem eqv_ints : ∀ xs : List Int, PyData.eqvAll (xs.map PyData.int) (xs.map PyData.int) = true
  | [] => by simp [PyData.eqvAll]
  | x :: xs => by simp [PyData.eqvAll, PyData.eqv, eqv_ints xs]
/-- a tag of the program's own -/
def Tag (x : Str) : Prop := x = "choice" ∨ x = "twice" ∨ x = "crowd" ∨ x = "way" ∨ x = "end"
theorem Tag.lay {x : Str} (h : Tag x) : PyData.canLay0 (.str x) = true := by
  rcases h with rfl | rfl | rfl | rfl | rfl <;> decide +kernel
theorem faults_lay : ∀ {fs : List Fault}, (∀ f ∈ fs, Tag f.1) → PyData.canLayAll0 (fs.map Fault.D) = true
  | [], _ => by simp [PyData.canLayAll0]
  | f :: fs, h => by
    have h1 := (h f List.mem_cons_self).lay
    have h2 := faults_lay fun g hg => h g (List.mem_cons_of_mem _ hg)
    simp [PyData.canLayAll0, Fault.D, PyData.canLay0, lay_ints, h2]
    simpa [PyData.canLay0] using h1
theorem faults_depth : ∀ fs : List Fault, PyData.depthAll (fs.map Fault.D) ≤ 1
  | [] => by simp [PyData.depthAll]
  | f :: fs => by
    have := faults_depth fs
    simp [PyData.depthAll, Fault.D, PyData.depth, depth_ints]
    omega
theorem shaped_faults {fs : List Fault} (h : ∀ f ∈ fs, Tag f.1) : SeqAt.shaped (.list (fs.map Fault.D)) = true := by
  have := faults_depth fs
  simp [SeqAt.shaped, PyData.canLay0, faults_lay h, PyData.depth]
  omega
theorem shaped_fault {f : Fault} (h : Tag f.1) : SeqAt.shaped f.D = true := by
  have h1 := h.lay
  simp [SeqAt.shaped, Fault.D, PyData.canLay0, PyData.canLayAll0, lay_ints, PyData.depth, PyData.depthAll, depth_ints]
  simpa [PyData.canLay0] using h1
theorem IsF.tag {S : Sheet} {s : Stand} {f : Fault} (h : IsF S s f) : Tag f.1 := by
  cases h
  · exact .inl rfl
  · exact .inr (.inl rfl)
  · exact .inr (.inr (.inl rfl))
  · exact .inr (.inr (.inr (.inl rfl)))
  · exact .inr (.inr (.inr (.inr rfl)))
/-- sorted coded items are coded items, the same -/
theorem sort_code {α : Type} (enc : α → PyData) (xs : List α) : ∃ ys : List α, sortD (xs.map enc) = ys.map enc ∧ ys.Perm xs := by
  refine ⟨xs.mergeSort (fun a b => PySem.W.dataLe false id (enc a) (enc b)), ?_, List.mergeSort_perm _ _⟩
  unfold sortD
  rw [List.map_mergeSort]
  intro a _ b _
  rfl

/-! ### pair_faults -/
def pj (S : Sheet) (j k : Int) : List Fault :=
  (if (taken S j k && !(ask S j && ask S k)) = true then [fC j k] else []) ++ if (turnAt S j).name = (turnAt S k).name then [fT j k] else []
theorem pj_len (S : Sheet) (j k : Int) : (pj S j k).length ≤ 2 := by
  unfold pj
  rw [List.length_append]
  split <;> split <;> simp
def pfs (S : Sheet) : List Int → List Fault
  | [] => []
  | j :: r => r.flatMap (pj S j) ++ pfs S r
theorem pfs_len (S : Sheet) : ∀ ks : List Int, (pfs S ks).length ≤ 2 * ks.length * ks.length
  | [] => by simp [pfs]
  | j :: r => by
    have h1 := pfs_len S r
    have h2 : ∀ l : List Int, (l.flatMap (pj S j)).length ≤ 2 * l.length := by
      intro l
      induction l with
      | nil => simp
      | cons x l ih =>
        rw [List.flatMap_cons, List.length_append, List.length_cons]
        have := pj_len S j x
        omega
    show (r.flatMap (pj S j) ++ pfs S r).length ≤ _
    rw [List.length_append, List.length_cons]
    have h3 := h2 r
    have e : 2 * (r.length + 1) * (r.length + 1) = 2 * r.length * r.length + 4 * r.length + 2 := by
      rw [Nat.mul_add, Nat.mul_add, Nat.add_mul, Nat.add_mul]; omega
    omega
def PairF (S : Sheet) (j k : Int) (f : Fault) : Prop := (f = fC j k ∧ taken S j k = true ∧ ¬(ask S j = true ∧ ask S k = true)) ∨ (f = fT j k ∧ (turnAt S j).name = (turnAt S k).name)
theorem mem_pj {S : Sheet} {j k : Int} {f : Fault} : f ∈ pj S j k ↔ PairF S j k f := by
  unfold pj PairF
  rw [List.mem_append]
  constructor
  · rintro (h | h)
    · left
      split at h
      · rename_i c
        refine ⟨by simpa using h, ?_⟩
        simp at c
        exact ⟨c.1, fun z => by simp [z.1, z.2] at c⟩
      · simp at h
    · right
      split at h
      · rename_i c
        exact ⟨by simpa using h, c⟩
      · simp at h
  · rintro (⟨rfl, h1, h2⟩ | ⟨rfl, h1⟩)
    · left
      rw [if_pos]
      · simp
      · cases ha : ask S j <;> cases hb : ask S k <;> simp_all
    · right
      rw [if_pos h1]
      simp
theorem mem_pfs {S : Sheet} {f : Fault} : ∀ {ks : List Int}, ks.Pairwise (· < ·) → (f ∈ pfs S ks ↔ ∃ j k, j ∈ ks ∧ k ∈ ks ∧ j < k ∧ PairF S j k f)
  | [], _ => by simp [pfs]
  | j :: r, h => by
    obtain ⟨h1, h2⟩ := List.pairwise_cons.mp h
    show f ∈ r.flatMap (pj S j) ++ pfs S r ↔ _
    rw [List.mem_append, mem_pfs h2, List.mem_flatMap]
    constructor
    · rintro (⟨k, hk, hf⟩ | ⟨a, b, ha, hb, hab, hf⟩)
      · exact ⟨j, k, List.mem_cons_self, List.mem_cons_of_mem _ hk, h1 k hk, mem_pj.mp hf⟩
      · exact ⟨a, b, List.mem_cons_of_mem _ ha, List.mem_cons_of_mem _ hb, hab, hf⟩
    · rintro ⟨a, b, ha, hb, hab, hf⟩
      rcases List.mem_cons.mp ha with ea | ha'
      · subst ea
        rcases List.mem_cons.mp hb with eb | hb'
        · omega
        · exact .inl ⟨b, hb', mem_pj.mpr hf⟩
      · rcases List.mem_cons.mp hb with eb | hb'
        · have := h1 a ha'
          omega
        · exact .inr ⟨a, b, ha', hb', hab, hf⟩
theorem cut_from {ds : List PyData} {j : Nat} (h : j ≤ ds.length) : cutD ds (some (j : Int)) none = ds.drop j := by
  unfold cutD
  rw [HT.sIx_nat, HT.sIx_none, Nat.min_eq_left h]
  exact List.take_of_length_le (by simp)
def S_pair_faults (ds : List PyData) (R : Sv → Prop) : Prop := ∃ S, ∃ ks : List Int, Ok S ∧ ks.length ≤ 20 ∧ (∀ k ∈ ks, 0 ≤ k ∧ k < S.turns.length) ∧ ds = [S.D, .list (ks.map PyData.int)] ∧ R (.o (Ol ((pfs S ks).map Fault.D)))
theorem w_pair_faults {K : PySem.W.Frag} (ds : List PyData) (R : Sv → Prop) (hl : ds.length = 2) (h : S_pair_faults ds R) :
    Sw (t_pair_faults K (SpD 3 S_both_taken) (SpD 2 S_is_ask)) (ds.map Sv.d ++ List.replicate (N_pair_faults.length - 2) .no) (fun _ => R (.d .none)) (fun _ s => R s) (fun _ => False) (fun _ => False) := by
  obtain ⟨S, ks, ok, hn, hk, rfl, r⟩ := h
  unfold t_pair_faults
  show Sw _ [.d S.D, .d (.list (ks.map PyData.int)), .no, .no, .no, .no] _ _ _ _
  refine sw_seq (sw_setO (ew_lst (ea_nil ⟨smallr rfl, _, rfl, lt_r rfl, ?_⟩)))
  refine sw_cut (fun Γ => Γ = [.d S.D, .d (.list (ks.map PyData.int)), .o (Ol ((pfs S ks).map Fault.D)), Γ[3]?.getD .no, Γ[4]?.getD .no, Γ[5]?.getD .no]) (sw_forE ks PyData.int (fun at_ Γ => ∃ acc s3 s4 s5, acc ++ pfs S (ks.drop at_) = pfs S ks ∧ acc.length ≤ 40 * at_ ∧ Γ = [.d S.D, .d (.list (ks.map PyData.int)), .o (Ol (acc.map Fault.D)), s3, s4, s5]) ?_) ?_
  · refine iw_enum (ea_cons (ed_var rfl (ea_nil ⟨_, rfl, rfl, ⟨[], .no, .no, .no, rfl, Nat.zero_le _, rfl⟩, fun at_ j Γ2 hj iv => ?_, fun Γ2 iv => ?_⟩)))
    · obtain ⟨acc, s3, s4, s5, e, hacc, rfl⟩ := iv
      have hat : at_ < ks.length := (List.getElem?_eq_some_iff.mp hj).1
      have hjm : j ∈ ks := List.mem_of_getElem? hj
      have hfl : ∀ l : List Int, (l.flatMap (pj S j)).length ≤ 2 * l.length := by
        intro l
        induction l with
        | nil => simp
        | cons x l ih =>
          rw [List.flatMap_cons, List.length_append, List.length_cons]
          have := pj_len S j x
          omega
      refine sg_tup ⟨_, rfl, rfl, sgs_cons (sg_name (lt_r rfl) (sgs_cons (sg_name (lt_r rfl) (sgs_nil ?_))))⟩
      refine sw_forL (ks.drop (at_ + 1)) PyData.int (fun q Γ => ∃ s5, Γ = [.d S.D, .d (.list (ks.map PyData.int)), .o (Ol ((acc ++ q.flatMap (pj S j)).map Fault.D)), .d (.int (at_ : Int)), .d (.int j), s5]) ?_
      refine iw_list (ed_new (ew_slL (ed_var rfl ⟨_, rfl, eo_some (ed_I0 (ed_var rfl ⟨_, rfl, ed_int ⟨_, rfl, _, rfl, eo_none ⟨_, rfl, _, rfl, ?_, ⟨s5, ?_⟩, fun q k q2 Γ3 e2 iv => ?_, fun Γ3 iv => ?_⟩⟩⟩))⟩)))
      · have := cut_from (ds := ks.map PyData.int) (j := at_ + 1) (by simp; omega)
        rw [List.map_drop, ← this]
        rfl
      · simp
      · obtain ⟨s5, rfl⟩ := iv
        have hkm : k ∈ ks := List.mem_of_mem_drop (by rw [e2]; simp : k ∈ ks.drop (at_ + 1))
        have hql : q.length ≤ 20 := by
          have : (ks.drop (at_ + 1)).length = q.length + (q2.length + 1) := by rw [e2]; simp
          rw [List.length_drop] at this
          omega
        have hsz : ∀ m : Nat, m ≤ 2 → acc.length + (q.flatMap (pj S j)).length + m < sizeLine := fun m hm => by have := hfl q; rw [sizeLine_eq]; omega
        have e4 : acc ++ (q ++ [k]).flatMap (pj S j) = (acc ++ q.flatMap (pj S j) ++ if (taken S j k && !(ask S j && ask S k)) = true then [fC j k] else []) ++ if (turnAt S j).name = (turnAt S k).name then [fT j k] else [] := by
          rw [List.flatMap_append, List.flatMap_singleton]
          unfold pj
          simp only [List.append_assoc]
        refine sg_name (lt_r rfl) (sw_cut (fun Γ => Γ = [.d S.D, .d (.list (ks.map PyData.int)), .o (Ol ((acc ++ q.flatMap (pj S j) ++ if (taken S j k && !(ask S j && ask S k)) = true then [fC j k] else []).map Fault.D)), .d (.int (at_ : Int)), .d (.int j), .d (.int k)]) (sw_ifV (taken S j k && !(ask S j && ask S k)) ?_ (fun hc => ?_) (fun hc => ?_)) ?_)
        · refine et_andV _ _ (et_B (ed_ew (ew_call (ea_cons (ed_var rfl (ea_cons (ed_var rfl (ea_cons (ed_var rfl (ea_nil ⟨rfl, S, j, k, ok, rfl, _, rfl, _, rfl, rfl, rfl⟩)))))))))) fun _ => et_notV _ (et_andV _ _ ?_ fun _ => ?_)
          · exact et_B (ed_ew (ew_call (ea_cons (ed_var rfl (ea_cons (ed_var rfl (ea_nil ⟨rfl, S, j, ok, (hk j hjm).1, (hk j hjm).2, rfl, _, rfl, _, rfl, rfl, rfl⟩)))))))
          · exact et_B (ed_ew (ew_call (ea_cons (ed_var rfl (ea_cons (ed_var rfl (ea_nil ⟨rfl, S, k, ok, (hk k hkm).1, (hk k hkm).2, rfl, _, rfl, _, rfl, rfl, rfl⟩)))))))
        · refine sw_app ⟨_, _, rfl⟩ (ed_tup (ea_cons (ed_str (ea_cons (ed_var rfl (ea_cons (ed_var rfl (ea_nil ⟨smallr rfl, _, _, rfl, ?_, ?_⟩))))))))
          · rw [List.length_map, List.length_append]
            exact hsz 0 (by decide)
          · rw [if_pos hc]
            simp only [List.map_append]
            rfl
        · refine sw_next ?_
          rw [hc, if_neg (by decide), List.append_nil]
          rfl
        · rintro Γ1 rfl
          have hone : (if (taken S j k && !(ask S j && ask S k)) = true then [fC j k] else []).length ≤ 1 := by split <;> simp
          refine sw_if (et_test (ed_eq (ed_ixTc (ed_ixTv rfl (ed_ixTc (ed_var rfl ⟨_, _, rfl, rfl, rfl, _, _, rfl, turn_at (hk j hjm).1 (hk j hjm).2, _, _, rfl, rfl, ed_ixTc (ed_ixTv rfl (ed_ixTc (ed_var rfl ⟨_, _, rfl, rfl, rfl, _, _, rfl, turn_at (hk k hkm).1 (hk k hkm).2, _, _, rfl, rfl, _, .str _ _, _, rfl, fun hc => ?_, fun hc => ?_⟩)))⟩))))))
          · have hc' : (turnAt S j).name = (turnAt S k).name := by simpa using hc
            refine sw_app ⟨_, _, rfl⟩ (ed_tup (ea_cons (ed_str (ea_cons (ed_var rfl (ea_cons (ed_var rfl (ea_nil ⟨smallr rfl, _, _, rfl, ?_, .d (.int k), ?_⟩))))))))
            · rw [List.length_map, List.length_append, List.length_append]
              have := hsz 1 (by decide)
              omega
            · rw [e4, if_pos hc']
              simp only [List.map_append]
              rfl
          · have hc' : ¬ (turnAt S j).name = (turnAt S k).name := by simpa using hc
            refine sw_next ⟨.d (.int k), ?_⟩
            rw [e4, if_neg hc', List.append_nil]
      · obtain ⟨s5, rfl⟩ := iv
        refine ⟨acc ++ (ks.drop (at_ + 1)).flatMap (pj S j), .d (.int (at_ : Int)), .d (.int j), s5, ?_, ?_, rfl⟩
        · rw [← e, List.append_assoc]
          congr 1
          have : ks.drop at_ = j :: ks.drop (at_ + 1) := by
            rw [List.drop_eq_getElem_cons hat]
            congr 1
            exact (List.getElem?_eq_some_iff.mp hj).2
          rw [this]
          rfl
        · have := hfl (ks.drop (at_ + 1))
          rw [List.length_drop] at this
          rw [List.length_append]
          omega
    · obtain ⟨acc, s3, s4, s5, e, hacc, rfl⟩ := iv
      rw [List.drop_length] at e
      have e' : acc = pfs S ks := by rw [← e]; simp [pfs]
      subst e'
      rfl
  · intro Γ1 e
    rw [e]
    exact sw_ret (ew_own rfl r)
end G

/-! ## part 17 -/
set_option Elab.async false
set_option linter.all false
set_option maxRecDepth 100000
set_option maxHeartbeats 2000000
namespace G
open PySem PySem.Spec PyProof.Rows L2
/-! ### faults_at -/
theorem mem_mays {S : Sheet} {ms : List Int} {k : Int} : k ∈ mays S ms ↔ 0 ≤ k ∧ k < S.turns.length ∧ may S ms k = true := by
  unfold mays
  rw [List.mem_filter, List.mem_map]
  constructor
  · rintro ⟨⟨j, hj, rfl⟩, h⟩
    have := List.mem_range.mp hj
    exact ⟨by omega, by omega, h⟩
  · rintro ⟨h0, h1, h⟩
    exact ⟨⟨k.toNat, List.mem_range.mpr (by omega), by omega⟩, h⟩
theorem mays_sorted (S : Sheet) (ms : List Int) : (mays S ms).Pairwise (· < ·) := by
  unfold mays
  refine List.Pairwise.filter _ ?_
  rw [List.pairwise_map]
  exact List.pairwise_lt_range.imp fun h => by omega
theorem mays_len (S : Sheet) (ms : List Int) : (mays S ms).length ≤ S.turns.length := by
  unfold mays
  refine Nat.le_trans (List.length_filter_le _ _) ?_
  simp
def cw (S : Sheet) (s : Stand) (k : Int) : List Fault := (if crowd S s.1 k = true then [fR k] else []) ++ if decide (value S s.2 (turnAt S k).name = some (turnAt S k).way) = true then [fW k] else []
theorem cw_len (S : Sheet) (s : Stand) (k : Int) : (cw S s k).length ≤ 2 := by
  unfold cw
  rw [List.length_append]
  split <;> split <;> simp
theorem cws_len (S : Sheet) (s : Stand) : ∀ l : List Int, (l.flatMap (cw S s)).length ≤ 2 * l.length
  | [] => by simp
  | x :: l => by
    rw [List.flatMap_cons, List.length_append, List.length_cons]
    have := cw_len S s x
    have := cws_len S s l
    omega
def fas (S : Sheet) (s : Stand) : List Fault := pfs S (mays S s.1) ++ (mays S s.1).flatMap (cw S s) ++ if (mays S s.1).isEmpty = true then [fE] else []
theorem mem_fas {S : Sheet} {s : Stand} {f : Fault} : f ∈ fas S s ↔ IsF S s f := by
  unfold fas
  rw [List.mem_append, List.mem_append, mem_pfs (mays_sorted S s.1), List.mem_flatMap]
  constructor
  · rintro ((⟨j, k, hj, hk, hjk, hf⟩ | ⟨k, hk, hf⟩) | h)
    · obtain ⟨a1, a2, a3⟩ := mem_mays.mp hj
      obtain ⟨b1, b2, b3⟩ := mem_mays.mp hk
      rcases hf with ⟨rfl, h1, h2⟩ | ⟨rfl, h1⟩
      · exact .choice j k a3 b3 a1 hjk b2 h1 h2
      · exact .twice j k a3 b3 a1 hjk b2 h1
    · obtain ⟨b1, b2, b3⟩ := mem_mays.mp hk
      unfold cw at hf
      rcases List.mem_append.mp hf with hf | hf
      · split at hf
        · rename_i c
          rw [List.mem_singleton.mp hf]
          exact .crowd k b3 b1 b2 c
        · simp at hf
      · split at hf
        · rename_i c
          rw [List.mem_singleton.mp hf]
          exact .way k b3 b1 b2 (by simpa using c)
        · simp at hf
    · split at h
      · rename_i c
        rw [List.mem_singleton.mp h]
        refine .fin fun k h0 h1 => ?_
        cases q : may S s.1 k with
        | false => rfl
        | true =>
          have := mem_mays.mpr ⟨h0, h1, q⟩
          rw [List.isEmpty_iff.mp c] at this
          simp at this
      · simp at h
  · intro h
    cases h with
    | choice j k a3 b3 a1 hjk b2 h1 h2 => exact .inl (.inl ⟨j, k, mem_mays.mpr ⟨a1, by omega, a3⟩, mem_mays.mpr ⟨by omega, b2, b3⟩, hjk, .inl ⟨rfl, h1, h2⟩⟩)
    | twice j k a3 b3 a1 hjk b2 h1 => exact .inl (.inl ⟨j, k, mem_mays.mpr ⟨a1, by omega, a3⟩, mem_mays.mpr ⟨by omega, b2, b3⟩, hjk, .inr ⟨rfl, h1⟩⟩)
    | crowd k b3 b1 b2 c => exact .inl (.inr ⟨k, mem_mays.mpr ⟨b1, b2, b3⟩, by unfold cw; rw [if_pos c]; simp⟩)
    | way k b3 b1 b2 c => exact .inl (.inr ⟨k, mem_mays.mpr ⟨b1, b2, b3⟩, by unfold cw; rw [c]; simp⟩)
    | fin c =>
      right
      have : mays S s.1 = [] := by
        rw [List.eq_nil_iff_forall_not_mem]
        intro k hk
        obtain ⟨b1, b2, b3⟩ := mem_mays.mp hk
        rw [c k b1 b2] at b3
        cases b3
      rw [this]
      simp
theorem eqB_opt (v : Option Int) (w : Int) : EqB (optD v) (.int w) (decide (v = some w)) := by
  cases v with
  | none => exact .non w
  | some i =>
    have := EqB.int i w
    have e : decide (some i = some w) = decide (i = w) := by simp
    rw [e]; exact this
def S_faults_at (ds : List PyData) (R : Sv → Prop) : Prop := ∃ S s, Ok S ∧ ds = [S.D, sD s] ∧ ∀ fs : List Fault, (∀ f, f ∈ fs ↔ IsF S s f) → fs.length ≤ 2000 → R (.o (Ol (fs.map Fault.D)))
theorem w_faults_at {K : PySem.W.Frag} (ds : List PyData) (R : Sv → Prop) (hl : ds.length = 2) (h : S_faults_at ds R) :
    Sw (t_faults_at K (SpD 2 S_may_turn) (SpD 2 S_pair_faults) (SpD 3 S_is_crowd) (SpD 3 S_value_of)) (ds.map Sv.d ++ List.replicate (N_faults_at.length - 2) .no) (fun _ => R (.d .none)) (fun _ s => R s) (fun _ => False) (fun _ => False) := by
  obtain ⟨S, s, ok, rfl, r⟩ := h
  have ht := ok.tn
  have hml := mays_len S s.1
  have hpl := pfs_len S (mays S s.1)
  have hpl' : 2 * (mays S s.1).length * (mays S s.1).length ≤ 2 * 20 * 20 := Nat.mul_le_mul (by omega) (by omega)
  unfold t_faults_at
  show Sw _ [.d S.D, .d (sD s), .no, .no, .no, .no, .no] _ _ _ _
  refine sw_seq (sw_set (ed_ew (ew_call (ea_cons (ed_var rfl (ea_cons (ed_ixTc (ed_var rfl ⟨_, _, rfl, rfl, ea_nil ⟨rfl, S, s.1, ok, rfl, _, ⟨_, rfl, rfl⟩, lt_r rfl, ?_⟩⟩))))))))
  refine sw_seq (sw_setO (ew_call (ea_cons (ed_var rfl (ea_cons (ed_var rfl (ea_nil ⟨rfl, S, mays S s.1, ok, by omega, fun k hk => ⟨(mem_mays.mp hk).1, (mem_mays.mp hk).2.1⟩, rfl, _, rfl, lt_r rfl, ?_⟩)))))))
  refine sw_cut (fun Γ => ∃ s4 s5 s6, Γ = [.d S.D, .d (sD s), .d (.list ((mays S s.1).map PyData.int)), .o (Ol ((pfs S (mays S s.1) ++ (mays S s.1).flatMap (cw S s)).map Fault.D)), s4, s5, s6]) (sw_forL (mays S s.1) PyData.int (fun q Γ => ∃ s4 s5 s6, Γ = [.d S.D, .d (sD s), .d (.list ((mays S s.1).map PyData.int)), .o (Ol ((pfs S (mays S s.1) ++ q.flatMap (cw S s)).map Fault.D)), s4, s5, s6]) ?_) ?_
  · refine iw_list (ed_var rfl ⟨_, rfl, rfl, ⟨.no, .no, .no, by simp⟩, fun q k q2 Γ3 e2 iv => ?_, fun Γ3 iv => iv⟩)
    obtain ⟨s4, s5, s6, rfl⟩ := iv
    have hkm : k ∈ mays S s.1 := by rw [e2]; simp
    obtain ⟨hk0, hk1, hk2⟩ := mem_mays.mp hkm
    have hql : q.length ≤ 20 := by
      have : (mays S s.1).length = q.length + (q2.length + 1) := by rw [e2]; simp
      omega
    have hsz : ∀ m : Nat, m ≤ 2 → (pfs S (mays S s.1)).length + (q.flatMap (cw S s)).length + m < sizeLine := fun m hm => by have := cws_len S s q; rw [sizeLine_eq]; omega
    refine sg_name (lt_r rfl) (sw_seq (sw_asg (ed_ixTv rfl (ed_ixTc (ed_var rfl ⟨_, _, rfl, rfl, rfl, _, _, rfl, turn_at hk0 hk1, ?_⟩)))))
    refine sg_tup ⟨_, rfl, rfl, sgs_cons (sg_name (lt_r rfl) (sgs_cons (sg_name (lt_r rfl) (sgs_nil ?_))))⟩
    refine sw_cut (fun Γ => Γ = [.d S.D, .d (sD s), .d (.list ((mays S s.1).map PyData.int)), .o (Ol ((pfs S (mays S s.1) ++ q.flatMap (cw S s) ++ if crowd S s.1 k = true then [fR k] else []).map Fault.D)), .d (.int k), .d (.str (turnAt S k).name), .d (.int (turnAt S k).way)]) (sw_ifV (crowd S s.1 k) ?_ (fun hc => ?_) (fun hc => ?_)) ?_
    · exact et_B (ed_ew (ew_call (ea_cons (ed_var rfl (ea_cons (ed_ixTc (ed_var rfl ⟨_, _, rfl, rfl, ea_cons (ed_var rfl (ea_nil ⟨rfl, S, s.1, k, ok, rfl, _, rfl, _, rfl, rfl, rfl⟩))⟩)))))))
    · refine sw_app ⟨_, _, rfl⟩ (ed_tup (ea_cons (ed_str (ea_cons (ed_var rfl (ea_nil ⟨smallr rfl, _, _, rfl, ?_, ?_⟩))))))
      · rw [List.length_map, List.length_append]
        exact hsz 0 (by decide)
      · rw [if_pos hc]
        simp only [List.map_append]
        rfl
    · refine sw_next ?_
      rw [hc, if_neg (by decide), List.append_nil]
      rfl
    · rintro Γ1 rfl
      have hone : (if crowd S s.1 k = true then [fR k] else []).length ≤ 1 := by split <;> simp
      have e4 : pfs S (mays S s.1) ++ (q ++ [k]).flatMap (cw S s) = (pfs S (mays S s.1) ++ q.flatMap (cw S s) ++ if crowd S s.1 k = true then [fR k] else []) ++ if decide (value S s.2 (turnAt S k).name = some (turnAt S k).way) = true then [fW k] else [] := by
        rw [List.flatMap_append, List.flatMap_singleton]
        unfold cw
        simp only [List.append_assoc]
      refine sw_ifV (decide (value S s.2 (turnAt S k).name = some (turnAt S k).way)) ?_ (fun hc => ?_) (fun hc => ?_)
      · exact et_test (ed_eq (ed_ew (ew_call (ea_cons (ed_var rfl (ea_cons (ed_ixTc (ed_var rfl ⟨_, _, rfl, rfl, ea_cons (ed_var rfl (ea_nil ⟨rfl, S, s.2, _, ok, rfl, _, rfl, ed_var rfl ⟨_, eqB_opt _ _, _, rfl, rfl, rfl⟩⟩))⟩))))))))
      · refine sw_app ⟨_, _, rfl⟩ (ed_tup (ea_cons (ed_str (ea_cons (ed_var rfl (ea_nil ⟨smallr rfl, _, _, rfl, ?_, .d (.int k), .d (.str (turnAt S k).name), .d (.int (turnAt S k).way), ?_⟩))))))
        · rw [List.length_map, List.length_append, List.length_append]
          have := hsz 1 (by decide)
          omega
        · rw [e4, if_pos hc]
          simp only [List.map_append]
          rfl
      · refine sw_next ⟨.d (.int k), .d (.str (turnAt S k).name), .d (.int (turnAt S k).way), ?_⟩
        rw [e4, hc, if_neg Bool.false_ne_true, List.append_nil]
  · rintro Γ1 ⟨s4, s5, s6, rfl⟩
    have hcl := cws_len S s (mays S s.1)
    refine sw_cut (fun Γ => Γ = [.d S.D, .d (sD s), .d (.list ((mays S s.1).map PyData.int)), .o (Ol ((fas S s).map Fault.D)), s4, s5, s6]) (sw_ifV (mays S s.1).isEmpty ?_ (fun hc => ?_) (fun hc => ?_)) ?_
    · refine et_test (ed_eqD (ed_var rfl (ed_new (ew_lst (ea_nil ⟨smallr rfl, [], rfl, shaped_ints _, shaped_nil, _, rfl, rfl, ?_⟩)))))
      rw [eqv_nil]
      cases mays S s.1 <;> rfl
    · refine sw_app ⟨_, _, rfl⟩ (ed_tup (ea_cons (ed_str (ea_nil ⟨smallr rfl, _, _, rfl, ?_, ?_⟩))))
      · rw [List.length_map, List.length_append, sizeLine_eq]
        omega
      · unfold fas
        rw [if_pos hc]
        simp only [List.map_append]
        rfl
    · refine sw_next ?_
      unfold fas
      rw [hc, if_neg (by decide), List.append_nil]
    · rintro Γ2 rfl
      have hfl : (fas S s).length ≤ 2000 := by
        unfold fas
        rw [List.length_append, List.length_append]
        have : (if (mays S s.1).isEmpty = true then [fE] else []).length ≤ 1 := by split <;> simp
        omega
      refine sw_ret (ew_sorted (es_own rfl ⟨fun d hd d' hd' => ?_, .inl fun d hd => ?_, by rw [List.length_map, sizeLine_eq]; omega, fun d hd => ?_, ?_⟩))
      · obtain ⟨f, _, rfl⟩ := List.mem_map.mp hd
        obtain ⟨g, _, rfl⟩ := List.mem_map.mp hd'
        exact alike_fault f g
      · obtain ⟨f, _, rfl⟩ := List.mem_map.mp hd
        exact ⟨_, _, rfl⟩
      · obtain ⟨f, _, rfl⟩ := List.mem_map.mp hd
        exact depth_fault f
      · obtain ⟨ys, e1, e2⟩ := sort_code Fault.D (fas S s)
        rw [e1]
        exact r ys (fun f => by rw [e2.mem_iff, mem_fas]) (by rw [e2.length_eq]; exact hfl)

/-! ### runs -/
def Fine (S : Sheet) (s : Stand) : Prop := ∀ f, ¬ IsF S s f
inductive Run (S : Sheet) : List Int → Stand → Prop
  | nil : Run S [] (first S)
  | snoc {row : List Int} {s : Stand} {k : Int} : Run S row s → Fine S s → may S s.1 k = true → 0 ≤ k → k < S.turns.length → Run S (row ++ [k]) (beh S s k)
theorem Sok.first {S : Sheet} (ok : Ok S) : Sok S (first S) := by
  refine ⟨by simp [G.first], by simp [G.first], fun x hx => ?_, fun x hx => ?_⟩
  · obtain ⟨p, hp, rfl⟩ := List.mem_map.mp hx
    exact ok.mark p hp
  · obtain ⟨p, hp, rfl⟩ := List.mem_map.mp hx
    exact ok.val p hp
theorem turnAt_mem {S : Sheet} {k : Int} (h0 : 0 ≤ k) (h1 : k < S.turns.length) : turnAt S k ∈ S.turns := List.mem_of_getElem? (turnAt_get h0 h1)
theorem Sok.beh {S : Sheet} (ok : Ok S) {s : Stand} (so : Sok S s) {k : Int} (h0 : 0 ≤ k) (h1 : k < S.turns.length) : Sok S (beh S s k) := by
  refine ⟨?_, ?_, fun x hx => ?_, fun x hx => ?_⟩
  · show (behM S s.1 k).length = _
    unfold behM
    rw [List.length_map, List.length_zip, so.ml, Nat.min_self]
  · show (behV S s.2 k).length = _
    unfold behV
    rw [List.length_map, List.length_zip, so.vl, Nat.min_self]
  · obtain ⟨p, hp, rfl⟩ := List.mem_map.mp hx
    have := so.m p.2 (List.of_mem_zip hp).2
    split
    · exact .inr rfl
    · split
      · exact .inl rfl
      · exact this
  · obtain ⟨p, hp, rfl⟩ := List.mem_map.mp hx
    have := so.v p.2 (List.of_mem_zip hp).2
    split
    · exact ok.way _ (turnAt_mem h0 h1)
    · exact this
theorem Run.sok {S : Sheet} (ok : Ok S) {row : List Int} {s : Stand} (r : Run S row s) : Sok S s := by
  induction r with
  | nil => exact .first ok
  | snoc _ _ _ h0 h1 ih => exact ih.beh ok h0 h1
/-! ### how many stands there are -/
def bits : Nat → List (List Int)
  | 0 => [[]]
  | n + 1 => (bits n).map (0 :: ·) ++ (bits n).map (1 :: ·)
theorem bits_len : ∀ n, (bits n).length = 2 ^ n
  | 0 => rfl
  | n + 1 => by simp [bits, bits_len n]; omega
theorem bits_mem : ∀ {n : Nat} {b : List Int}, b.length = n → (∀ x ∈ b, x = 0 ∨ x = 1) → b ∈ bits n
  | 0, [], _, _ => by simp [bits]
  | n + 1, x :: b, hl, h => by
    have := bits_mem (n := n) (b := b) (by simpa using hl) fun y hy => h y (List.mem_cons_of_mem _ hy)
    rcases h x List.mem_cons_self with rfl | rfl
    · simp [bits, this]
    · simp [bits, this]
theorem nodup_le {α : Type} [DecidableEq α] : ∀ {l m : List α}, l.Nodup → (∀ x ∈ l, x ∈ m) → l.length ≤ m.length
  | [], _, _, _ => by simp
  | x :: l, m, h, hm => by
    obtain ⟨h1, h2⟩ := List.nodup_cons.mp h
    have hx := hm x List.mem_cons_self
    have := nodup_le (l := l) (m := m.erase x) h2 fun y hy => by
      have hne : y ≠ x := fun e => h1 (e ▸ hy)
      exact (List.mem_erase_of_ne hne).mpr (hm y (List.mem_cons_of_mem _ hy))
    rw [List.length_erase_of_mem hx] at this
    have : 0 < m.length := List.length_pos_of_mem hx
    rw [List.length_cons]
    omega
theorem stands_le {S : Sheet} (ok : Ok S) {ws : List Stand} (nd : ws.Nodup) (h : ∀ s ∈ ws, Sok S s) : ws.length ≤ 4194304 := by
  have h1 := nodup_le (m := (bits S.spots.length).flatMap fun a => (bits S.wires.length).map fun b => (a, b)) nd fun s hs => by
    have so := h s hs
    rw [List.mem_flatMap]
    exact ⟨s.1, bits_mem so.ml so.m, List.mem_map.mpr ⟨s.2, bits_mem so.vl so.v, rfl⟩⟩
  have h2 : ∀ (n : Nat) (l : List (List Int)), (l.flatMap fun a => (bits n).map fun b => (a, b)).length = l.length * 2 ^ n := by
    intro n l
    induction l with
    | nil => simp
    | cons x l ih => rw [List.flatMap_cons, List.length_append, ih, List.length_map, bits_len, List.length_cons, Nat.add_mul]; omega
  rw [h2, bits_len, ← Nat.pow_add] at h1
  have h3 : 2 ^ (S.spots.length + S.wires.length) ≤ 2 ^ 22 := Nat.pow_le_pow_right (by decide) ok.size
  exact Nat.le_trans h1 h3

/-! ### sound -/
structure Bfs (S : Sheet) (ws : List Stand) (kvs : List (Stand × PyData)) : Prop where
  nd : ws.Nodup
  ks : kvs.map (·.1) = ws
  rn : ∀ kv ∈ kvs, ∃ row, kv.2 = intsD row ∧ Run S row kv.1 ∧ row.length < ws.length
  fs : first S ∈ ws
theorem Bfs.run {S : Sheet} {ws : List Stand} {kvs : List (Stand × PyData)} (h : Bfs S ws kvs) {s : Stand} (hs : s ∈ ws) : ∃ row, Run S row s := by
  rw [← h.ks] at hs
  obtain ⟨kv, h1, rfl⟩ := List.mem_map.mp hs
  obtain ⟨row, _, h2, _⟩ := h.rn kv h1
  exact ⟨row, h2⟩
theorem Bfs.len {S : Sheet} {ws : List Stand} {kvs : List (Stand × PyData)} (ok : Ok S) (h : Bfs S ws kvs) : ws.length ≤ 4194304 := stands_le ok h.nd fun s hs => by
  obtain ⟨row, r⟩ := h.run hs
  exact r.sok ok
theorem Bfs.klen {S : Sheet} {ws : List Stand} {kvs : List (Stand × PyData)} (h : Bfs S ws kvs) : kvs.length = ws.length := by rw [← h.ks, List.length_map]
theorem Bfs.snoc {S : Sheet} {ws : List Stand} {kvs : List (Stand × PyData)} (h : Bfs S ws kvs) {s : Stand} {row : List Int} (hs : s ∉ ws) (r : Run S row s) (hl : row.length ≤ ws.length) : Bfs S (ws ++ [s]) (kvs ++ [(s, intsD row)]) := by
  refine ⟨?_, by simp [h.ks], fun kv hkv => ?_, List.mem_append_left _ h.fs⟩
  · rw [List.nodup_append]
    refine ⟨h.nd, by simp, fun a ha b hb => ?_⟩
    have : b = s := by simpa using hb
    subst this
    exact fun e => hs (e ▸ ha)
  · rcases List.mem_append.mp hkv with hkv | hkv
    · obtain ⟨row, h1, h2, h3⟩ := h.rn kv hkv
      exact ⟨row, h1, h2, by simp; omega⟩
    · have : kv = (s, intsD row) := by simpa using hkv
      subst this
      exact ⟨row, rfl, r, by simp; omega⟩
def S_sound (ds : List PyData) (R : Sv → Prop) : Prop := ∃ S, Ok S ∧ ds = [S.D] ∧ (∀ row s f, Run S row s → IsF S s f → row.length ≤ 5000000 → R (.d (.tuple [.str "fall", intsD row, f.D]))) ∧
  ∀ ss : List Stand, ss.Nodup → ss.length ≤ 5000000 → (∀ s, s ∈ ss ↔ ∃ row, Run S row s) → (∀ s row, Run S row s → Fine S s) → R (.d (.tuple [.str "sound", .tuple (sortD (ss.map sD))]))
theorem w_sound {P : Program} {w : World} {K : PySem.W.Frag} (ds : List PyData) (R : Sv → Prop) (hl : ds.length = 1) (h : S_sound ds R) :
    Sw (t_sound P w K (SpD 1 S_first_of) (SpD 2 S_faults_at) (SpD 2 S_may_turn) (SpD 3 S_behind)) (ds.map Sv.d ++ List.replicate (N_sound.length - 1) .no) (fun _ => R (.d .none)) (fun _ s => R s) (fun _ => False) (fun _ => False) := by
  obtain ⟨S, ok, rfl, rf, rs⟩ := h
  have ht := ok.tn
  unfold t_sound
  show Sw _ [.d S.D, .no, .no, .no, .no, .no, .no, .no, .no] _ _ _ _
  refine sw_seq (sw_set (ed_ew (ew_call (ea_cons (ed_var rfl (ea_nil ⟨rfl, S, ok, rfl, _, rfl, lt_r rfl, ?_⟩))))))
  refine sw_seq (sw_setO (ew_dispN (ed_var rfl ⟨first S, rfl, ed_tup (ea_nil ⟨smallr rfl, _, rfl, lt_r rfl, ?_⟩)⟩)))
  refine sw_seq (sw_setO (ew_lst (ea_cons (ed_var rfl (ea_nil ⟨smallr rfl, _, rfl, lt_r rfl, ?_⟩)))))
  refine sw_seq (sw_set (ed_int ⟨lt_r rfl, ?_⟩))
  refine sw_cut (fun Γ => ∃ ws kvs at_ s5 s6 s7 s8, Bfs S ws kvs ∧ at_ = ws.length ∧ (∀ (i : Nat) s, i < at_ → ws[i]? = some s → Fine S s ∧ ∀ k : Int, 0 ≤ k → k < S.turns.length → may S s.1 k = true → beh S s k ∈ ws) ∧ Γ = [.d S.D, .d (sD (first S)), .o (On P w kvs), .o (Ol (ws.map sD)), .d (.int (at_ : Nat)), s5, s6, s7, s8])
    (sw_while (fun m Γ => ∃ ws kvs at_ s5 s6 s7 s8, m = 5000000 - at_ ∧ Bfs S ws kvs ∧ at_ ≤ ws.length ∧ (∀ (i : Nat) s, i < at_ → ws[i]? = some s → Fine S s ∧ ∀ k : Int, 0 ≤ k → k < S.turns.length → may S s.1 k = true → beh S s k ∈ ws) ∧ Γ = [.d S.D, .d (sD (first S)), .o (On P w kvs), .o (Ol (ws.map sD)), .d (.int (at_ : Nat)), s5, s6, s7, s8]) 5000000 ?_ ?_) ?_
  · refine ⟨[first S], [(first S, intsD [])], 0, .no, .no, .no, .no, rfl, ⟨by simp, rfl, fun kv hkv => ?_, by simp⟩, by simp, fun i s hi => absurd hi (by omega), rfl⟩
    have : kv = (first S, intsD []) := by simpa using hkv
    subst this
    exact ⟨[], rfl, .nil, by simp⟩
  · rintro m Γ2 ⟨ws, kvs, at_, s5, s6, s7, s8, rfl, bf, hat, hdone, rfl⟩
    have hwl := bf.len ok
    refine et_test (ed_B0 (ed_var rfl ⟨_, rfl, ed_len (es_own rfl ⟨_, rfl, _, rfl, fun hb => ?_, fun hb => ?_⟩)⟩))
    · have hlt : at_ < ws.length := by simpa using hb
      obtain ⟨s, hs⟩ : ∃ s, ws[at_]? = some s := ⟨ws[at_], List.getElem?_eq_getElem hlt⟩
      have hsm : s ∈ ws := List.mem_of_getElem? hs
      obtain ⟨row0, run0⟩ := bf.run hsm
      have so := run0.sok ok
      refine sw_seq (sw_set (ed_ixO ⟨_, rfl⟩ (ed_var rfl ⟨_, _, _, sD s, rfl, rfl, atI_ofNat (by rw [List.getElem?_map, hs]; rfl), lt_r rfl, ?_⟩)))
      refine sw_seq (sw_set (ed_I0 (ed_var rfl ⟨_, rfl, ed_int ⟨_, rfl, lt_r rfl, ?_⟩⟩)))
      refine sw_seq (sw_set (ed_ew (ew_call (ea_cons (ed_var rfl (ea_cons (ed_var rfl (ea_nil ⟨rfl, S, s, ok, rfl, fun fs hfs hfl => ⟨_, ⟨_, rfl, rfl⟩, lt_r rfl, ?_⟩⟩))))))))
      have htag : ∀ f ∈ fs, Tag f.1 := fun f hf => ((hfs f).mp hf).tag
      have hk : s ∈ kvs.map (·.1) := by rw [bf.ks]; exact hsm
      refine sw_seq (sw_if (et_test (ed_neD (ed_var rfl (ed_new (ew_lst (ea_nil ⟨smallr rfl, [], rfl, shaped_faults htag, shaped_nil, _, rfl, fun hb => ?_, fun hb => ?_⟩)))))))
      · -- a fault
        rw [eqv_nil] at hb
        cases fs with
        | nil => simp at hb
        | cons f fs =>
          refine sw_retd (ed_tup (ea_cons (ed_str (ea_cons (ed_getN ⟨_, rfl⟩ (ed_var rfl ⟨kvs, s, rfl, rfl, hk, fun d hd => ea_cons (ed_ixLc (ed_var rfl ⟨_, f.D, rfl, atI_ofNat (i := 0) rfl, ea_nil ⟨smallr rfl, ?_⟩⟩))⟩))))))
          obtain ⟨row, h1, h2, h3⟩ := bf.rn _ hd
          have h1' : d = intsD row := h1
          rw [h1']
          exact rf row s f h2 ((hfs f).mp List.mem_cons_self) (by omega)
      · rw [eqv_nil] at hb
        have hfine : Fine S s := fun f hf => by
          have := (hfs f).mpr hf
          cases fs with
          | nil => simp at this
          | cons _ _ => simp at hb
        refine sw_next ?_
        refine sw_forL (mays S s.1) PyData.int (fun q Γ => ∃ ext kvs' s7 s8, Bfs S (ws ++ ext) kvs' ∧ (∀ k ∈ q, beh S s k ∈ ws ++ ext) ∧ Γ = [.d S.D, .d (sD (first S)), .o (On P w kvs'), .o (Ol ((ws ++ ext).map sD)), .d (.int ((at_ + 1 : Nat) : Int)), .d (sD s), .d (.list (fs.map Fault.D)), s7, s8]) ?_
        refine iw_list (ed_ew (ew_call (ea_cons (ed_var rfl (ea_cons (ed_ixTc (ed_var rfl ⟨_, _, rfl, rfl, ea_nil ⟨rfl, S, s.1, ok, rfl, _, ⟨_, rfl, rfl⟩, _, rfl, rfl, ⟨[], kvs, s7, s8, by rw [List.append_nil]; exact bf, by simp, by rw [List.append_nil]; rfl⟩, fun q k q2 Γ3 e2 iv => ?_, fun Γ3 iv => ?_⟩⟩)))))))
        · obtain ⟨ext, kvs', s7, s8, bf', hq, rfl⟩ := iv
          have hkm : k ∈ mays S s.1 := by rw [e2]; simp
          obtain ⟨hk0, hk1, hk2⟩ := mem_mays.mp hkm
          have hsm' : s ∈ ws ++ ext := List.mem_append_left _ hsm
          have hk' : s ∈ kvs'.map (·.1) := by rw [bf'.ks]; exact hsm'
          have hwl' := bf'.len ok
          have hkl' := bf'.klen
          refine sg_name (lt_r rfl) (sw_seq (sw_set (ed_ew (ew_call (ea_cons (ed_var rfl (ea_cons (ed_var rfl (ea_cons (ed_var rfl (ea_nil ⟨rfl, S, s, k, ok, so, hk0, hk1, rfl, _, rfl, lt_r rfl, ?_⟩)))))))))))
          refine sw_if (et_test (ed_notInN (s := s) (ed_var rfl ⟨beh S s k, kvs', rfl, rfl, _, rfl, fun hb => ?_, fun hb => ?_⟩)))
          · have hnk : beh S s k ∉ kvs'.map (·.1) := by simpa using hb
            have hnw : beh S s k ∉ ws ++ ext := by rw [← bf'.ks]; exact hnk
            refine sw_seq (sw_setN (ed_catT (ed_getN ⟨_, rfl⟩ (ed_var rfl ⟨kvs', s, rfl, rfl, hk', fun d hd => ?_⟩))))
            obtain ⟨row, h1, h2, h3⟩ := bf'.rn (s, d) hd
            have h1' : d = intsD row := h1
            refine ⟨row.map PyData.int, h1', ed_tup (ea_cons (ed_var rfl (ea_nil ⟨smallr rfl, _, rfl, by rw [List.length_map, sizeLine_eq]; simp; omega, ⟨_, rfl⟩, ed_var rfl ⟨kvs', beh S s k, rfl, rfl, hnk, by rw [sizeLine_eq]; omega, ?_⟩⟩)))⟩
            have e5 : PyData.tuple (row.map PyData.int ++ [PyData.int k]) = intsD (row ++ [k]) := by unfold intsD; simp
            refine sw_app ⟨_, _, rfl⟩ (ed_var rfl ⟨_, _, rfl, by rw [List.length_map, sizeLine_eq]; omega, ext ++ [beh S s k], kvs' ++ [(beh S s k, intsD (row ++ [k]))], .d (.int k), .d (sD (beh S s k)), ?_, fun j hj => ?_, ?_⟩)
            · rw [← List.append_assoc]
              exact bf'.snoc hnw (.snoc h2 hfine hk2 hk0 hk1) (by simp; simp at h3; omega)
            · rw [← List.append_assoc]
              rcases List.mem_append.mp hj with hj | hj
              · exact List.mem_append_left _ (hq j hj)
              · have : j = k := by simpa using hj
                subst this
                simp
            · rw [← e5, ← List.append_assoc, List.map_append (l₂ := [beh S s k])]
              rfl
          · have hyk : beh S s k ∈ kvs'.map (·.1) := by simpa using hb
            refine sw_next ⟨ext, kvs', .d (.int k), .d (sD (beh S s k)), bf', fun j hj => ?_, rfl⟩
            rcases List.mem_append.mp hj with hj | hj
            · exact hq j hj
            · have : j = k := by simpa using hj
              subst this
              rw [← bf'.ks]; exact hyk
        · obtain ⟨ext, kvs', s7, s8, bf', hq, rfl⟩ := iv
          have hwl' := bf'.len ok
          refine ⟨5000000 - (at_ + 1), by omega, ws ++ ext, kvs', at_ + 1, .d (sD s), .d (.list (fs.map Fault.D)), s7, s8, rfl, bf', by rw [List.length_append]; omega, fun i t hi hti => ?_, rfl⟩
          have hi' : i < ws.length := by omega
          rw [List.getElem?_append_left hi'] at hti
          by_cases c : i = at_
          · subst c
            rw [hs] at hti
            cases hti
            exact ⟨hfine, fun k h0 h1 h2 => hq k (mem_mays.mpr ⟨h0, h1, h2⟩)⟩
          · obtain ⟨d1, d2⟩ := hdone i t (by omega) hti
            exact ⟨d1, fun k h0 h1 h2 => List.mem_append_left _ (d2 k h0 h1 h2)⟩
    · have hge : ¬ at_ < ws.length := by simpa using hb
      exact ⟨ws, kvs, at_, s5, s6, s7, s8, bf, by omega, hdone, rfl⟩
  · rintro Γ1 ⟨ws, kvs, at_, s5, s6, s7, s8, bf, hat, hdone, rfl⟩
    have hwl := bf.len ok
    have hkl := bf.klen
    have hin : ∀ row s, Run S row s → s ∈ ws := by
      intro row s r
      induction r with
      | nil => exact bf.fs
      | snoc _ hf hm h0 h1 ih =>
        obtain ⟨i, hi⟩ := List.getElem?_of_mem ih
        exact (hdone i _ (by have := (List.getElem?_eq_some_iff.mp hi).1; omega) hi).2 _ h0 h1 hm
    refine sw_retd (ed_tup (ea_cons (ed_str (ea_cons (ed_tupC (es_new (ew_sorted (es_new (ew_listN rfl (by rw [sizeLine_eq]; omega) ⟨_, rfl, fun d hd d' hd' => ?_, .inl fun d hd => ?_, by rw [List.length_map, sizeLine_eq]; omega, fun d hd => ?_, _, rfl, rfl, ea_nil ⟨smallr rfl, ?_⟩⟩)))))))))
    · obtain ⟨f, _, rfl⟩ := List.mem_map.mp hd
      obtain ⟨g, _, rfl⟩ := List.mem_map.mp hd'
      exact alike_stand _ _
    · obtain ⟨f, _, rfl⟩ := List.mem_map.mp hd
      exact ⟨_, _, rfl⟩
    · obtain ⟨f, _, rfl⟩ := List.mem_map.mp hd
      exact depth_stand _
    · have e : (kvs.map fun kv => sD kv.1) = ws.map sD := by rw [← bf.ks, List.map_map]; rfl
      rw [e]
      refine rs ws bf.nd (by omega) (fun s => ⟨fun hs => bf.run hs, fun ⟨row, r⟩ => hin row s r⟩) fun s row r => ?_
      obtain ⟨i, hi⟩ := List.getElem?_of_mem (hin row s r)
      exact (hdone i _ (by have := (List.getElem?_eq_some_iff.mp hi).1; omega) hi).1
end G

/-! ## part 18 -/
set_option Elab.async false
set_option linter.all false
set_option maxRecDepth 100000
set_option maxHeartbeats 2000000
namespace G
open PySem PySem.Spec PyProof.Rows L2
section
variable {Γ : List Sv} {te ta tb tc : TE} {tt tu : TT} {tas : TA} {K : PySem.W.Frag} {t u : TS} {Nx Bk Ct : List Sv → Prop} {Rt : List Sv → Sv → Prop} {i : Nat}
/-- x = a whole number of which P holds -/
theorem sw_seqI (P : Int → Prop) (h : Ed te Γ fun Γ1 d => Γ1 = Γ ∧ ∃ z, d = .int z ∧ P z) (hi : i < Γ.length) (k : ∀ z, P z → Sw u (Γ.set i (.d (.int z))) Nx Rt Bk Ct) : Sw (tSeq (tAsg te (gName i)) u) Γ Nx Rt Bk Ct :=
  sw_seq (sw_set (h.imp fun Γ1 d ⟨e, z, ez, hz⟩ => by subst e ez; exact ⟨hi, k z hz⟩))
end
/-! ### the pen -/
theorem mul_bd {a b A B : Int} (h0 : 0 ≤ a) (h1 : a ≤ A) (h2 : 0 ≤ b) (h3 : b ≤ B) : 0 ≤ a * b ∧ a * b ≤ A * B := ⟨Int.mul_nonneg h0 h2, Int.mul_le_mul h1 h3 h2 (by omega)⟩
def S_law_draw (n : Nat) (ds : List PyData) (R : Nat → Sv → Prop) : Prop := n ≤ 100000 ∧ ∃ m : Nat, 1 ≤ m ∧ m ≤ 1000 ∧ ds = [.int m] ∧ ∀ r : Nat, r < m → R (n + 1) (.d (.int r))
theorem nat_of {z : Int} {m : Nat} (h0 : 0 ≤ z) (h1 : z < m) : ∃ r : Nat, z = r ∧ r < m := ⟨z.toNat, by omega, by omega⟩
theorem w_law_draw {K : PySem.W.Frag} (p : Addr) (n : Nat) (ds : List PyData) (R : Nat → Sv → Prop) (hl : ds.length = 1) (h : S_law_draw n ds R) :
    Sw (t_law_draw K) (.o (Op p n) :: (ds.map Sv.d ++ List.replicate (N_law_draw.length - 2) .no)) (fun Γ' => ∃ m', Γ'[0]? = some (.o (Op p m')) ∧ R m' (.d .none)) (fun Γ' s => ∃ m', Γ'[0]? = some (.o (Op p m')) ∧ R m' s) (fun _ => False) (fun _ => False) := by
  obtain ⟨hn, m, hm1, hm2, rfl, r⟩ := h
  unfold t_law_draw
  show Sw _ [.o (Op p n), .d (.int m), .no, .no, .no, .no] _ _ _ _
  refine sw_open (i := 0) rfl fun c x l hp hc => ?_
  have hx0 := hp.a0
  have hx1 := hp.an
  have hl0 := hp.l0
  have hcl : ((c.length : Nat) : Int) ≤ 63 := by omega
  refine sw_cut (fun Γ => Γ = [.o (Oa (· = p) (penD c x l)), .d (.int m), .no, .no, .no, .no]) (sw_if (et_test (ed_B0 (ed_ixO ⟨_, rfl⟩ (ed_int ⟨_, _, 2, .int l, rfl, rfl, rfl, _, rfl, ed_int ⟨_, rfl, _, rfl, fun hb => ?_, fun hb => sw_next rfl⟩⟩))))) ?_
  · have hb' : 0 < l := by simpa using hb
    refine sw_seqI (fun z => z = l % m) (ed_I (ed_ixO ⟨_, rfl⟩ (ed_int ⟨_, _, 2, .int l, rfl, rfl, rfl, _, rfl, ed_var rfl ⟨_, rfl, by omega, rfl, _, rfl, rfl⟩⟩))) (lt_r rfl) ?_
    rintro z rfl
    refine sw_seq (sw_sub (ed_I (ed_ixO ⟨_, rfl⟩ (ed_int ⟨_, _, 2, .int l, rfl, rfl, rfl, _, rfl, ed_var rfl ⟨_, rfl, ⟨by omega, by omega⟩, ⟨_, rfl⟩, ed_int ⟨_, _, 2, 2, rfl, rfl, rfl, ?_⟩⟩⟩))))
    refine sw_weak (i := 0) (p := Oa (· = p) (penD c x (l / m))) (q := Op p (n + 1)) rfl (op_close ⟨hx0, by omega, Int.ediv_nonneg hl0 (by omega)⟩ hc) ?_
    obtain ⟨k, hk, hk2⟩ := nat_of (Int.emod_nonneg l (by omega : (m : Int) ≠ 0)) (Int.emod_lt_of_pos l (by omega : (0 : Int) < m))
    rw [hk]
    exact sw_retd (ed_var rfl ⟨n + 1, rfl, r k hk2⟩)
  · rintro Γ1 rfl
    refine sw_seq (sw_set (ed_ixO ⟨_, rfl⟩ (ed_int ⟨_, _, 1, .int x, rfl, rfl, rfl, lt_r rfl, ?_⟩)))
    refine sw_seq (sw_sub (ed_I0 (ed_var rfl ⟨_, rfl, ed_int ⟨_, rfl, ⟨_, rfl⟩, ed_int ⟨_, _, 1, 1, rfl, rfl, rfl, ?_⟩⟩⟩)))
    refine sw_seqI (fun _ => True) (ed_I0 (ed_I (ed_int ⟨_, rfl, ed_var rfl ⟨_, rfl, .inl ⟨by decide, by decide⟩, _, rfl, ed_int ⟨_, rfl, rfl, _, rfl, trivial⟩⟩⟩))) (lt_r rfl) fun z _ => ?_
    refine sw_cut (fun Γ => ∃ z, Γ = [.o (Oa (· = p) (penD c (x + 1) l)), .d (.int m), .no, .d (.int x), .d (.int z), .no]) (sw_if (et_test (ed_neD (ed_ixO ⟨_, rfl⟩ (ed_int ⟨_, _, 0, .list (c.map PyData.int), rfl, rfl, rfl, ed_new (ew_lst (ea_nil ⟨smallr rfl, [], rfl, shaped_ints _, shaped_nil, _, rfl, fun hb => ?_, fun hb => sw_next ⟨z, rfl⟩⟩))⟩))))) ?_
    · rw [eqv_nil] at hb
      have hpos : 0 < c.length := by
        cases c with
        | nil => simp at hb
        | cons _ _ => simp
      obtain ⟨k, hk, hk2⟩ := nat_of (m := c.length) (Int.emod_nonneg x (by omega : ((c.length : Nat) : Int) ≠ 0)) (Int.emod_lt_of_pos x (by omega))
      refine sw_set (ed_ixL (ed_ixO ⟨_, rfl⟩ (ed_int ⟨_, _, 0, .list (c.map PyData.int), rfl, rfl, rfl, _, rfl, ed_I (ed_var rfl ⟨_, rfl, ed_len (es_list (ed_ixO ⟨_, rfl⟩ (ed_int ⟨_, _, 0, .list (c.map PyData.int), rfl, rfl, rfl, _, rfl, _, rfl, ?_, ?_⟩)))⟩)⟩)))
      · rw [List.length_map]; omega
      · refine ⟨_, .int c[k], rfl, ?_, lt_r rfl, c[k], rfl⟩
        rw [List.length_map, hk]
        exact atI_ofNat (by rw [List.getElem?_map, List.getElem?_eq_getElem hk2]; rfl)
    · rintro Γ1 ⟨z, rfl⟩
      have habs : 0 ≤ (if z < 0 then -z else z) := by split <;> omega
      refine sw_cut (fun Γ => Γ = [.o (Oa (· = p) (penD c (x + 1) l)), .d (.int m), .no, .d (.int x), .d (.int z), .no]) (sw_if (et_and (et_test (ed_B0 (ed_var rfl ⟨_, rfl, ed_len (es_list (ed_ixO ⟨_, rfl⟩ (ed_int ⟨_, _, 0, .list (c.map PyData.int), rfl, rfl, rfl, _, rfl, _, rfl, _, rfl, fun hb => ?_, fun hb => ⟨fun z => Bool.noConfusion z, fun _ => sw_next rfl⟩⟩)))⟩))))) ?_
      · refine et_test (ed_B0 (ed_abs (ea_cons (ed_var rfl (ea_nil ⟨_, rfl, _, rfl, ed_I (ed_int ⟨_, rfl, ed_int ⟨_, rfl, ⟨by decide, by decide, by decide⟩, _, rfl, _, rfl, fun hc2 => ?_, fun hc2 => sw_next rfl⟩⟩)⟩)))))
        refine sw_seq (sw_sub (ed_I (ed_abs (ea_cons (ed_var rfl (ea_nil ⟨_, rfl, _, rfl, ed_var rfl ⟨_, rfl, ⟨by omega, by omega⟩, ⟨_, rfl⟩, ed_int ⟨_, _, 2, 2, rfl, rfl, rfl, ?_⟩⟩⟩))))))
        refine sw_weak (i := 0) (p := Oa (· = p) (penD c (x + 1) ((if z < 0 then -z else z) / m))) (q := Op p (n + 1)) rfl (op_close ⟨by omega, by omega, Int.ediv_nonneg habs (by omega)⟩ hc) ?_
        refine sw_retd (ed_I (ed_abs (ea_cons (ed_var rfl (ea_nil ⟨_, rfl, _, rfl, ed_var rfl ⟨_, rfl, by omega, n + 1, rfl, ?_⟩⟩)))))
        obtain ⟨k, hk, hk2⟩ := nat_of (Int.emod_nonneg (if z < 0 then -z else z) (by omega : (m : Int) ≠ 0)) (Int.emod_lt_of_pos (if z < 0 then -z else z) (by omega : (0 : Int) < m))
        rw [hk]
        exact r k hk2
      · rintro Γ1 rfl
        refine sw_seqI (fun z => 0 ≤ z ∧ z < 2147483647) (ed_I (ed_I (ed_I0 (ed_I0 (ed_I (ed_var rfl ⟨_, rfl, ed_int ⟨_, rfl, by decide, _, rfl, ed_I (ed_int ⟨_, rfl, ed_var rfl ⟨_, rfl, .inl ⟨by decide, by decide⟩, _, rfl, _, rfl, ed_int ⟨_, rfl, _, rfl, ed_int ⟨_, rfl, ⟨by decide, by decide, ?_⟩, _, rfl, ed_int ⟨_, rfl, by decide, rfl, _, rfl, ?_⟩⟩⟩⟩⟩)⟩⟩)))))) (lt_r rfl) fun y hy => ?_
        · have : (2 : Nat) ^ 64 = 18446744073709551616 := by decide
          omega
        · exact ⟨Int.emod_nonneg _ (by decide), Int.emod_lt_of_pos _ (by decide)⟩
        · obtain ⟨b1, b2⟩ := mul_bd (A := 2147483647) (B := 300000) hy.1 (by omega) (by omega : (0 : Int) ≤ 2 * x + 3) (by omega)
          refine sw_seqI (fun z => 0 ≤ z) (ed_I (ed_I (ed_I0 (ed_I (ed_var rfl ⟨_, rfl, ed_I0 (ed_I (ed_int ⟨_, rfl, ed_var rfl ⟨_, rfl, .inl ⟨by decide, by decide⟩, _, rfl, ed_int ⟨_, rfl, _, rfl, .inl ⟨by omega, by omega⟩, _, rfl, ed_int ⟨_, rfl, _, rfl, ed_int ⟨_, rfl, ⟨by decide, by decide, ?_⟩, _, rfl, ed_int ⟨_, rfl, by decide, rfl, _, rfl, ?_⟩⟩⟩⟩⟩⟩))⟩))))) (lt_r rfl) fun y2 hy2 => ?_
          · have : (2 : Nat) ^ 64 = 18446744073709551616 := by decide
            omega
          · exact Int.emod_nonneg _ (by decide)
          · refine sw_weak (i := 0) (p := Oa (· = p) (penD c (x + 1) l)) (q := Op p (n + 1)) rfl (op_close ⟨by omega, by omega, hl0⟩ hc) ?_
            refine sw_retd (ed_I (ed_I (ed_var rfl ⟨_, rfl, ed_int ⟨_, rfl, ⟨by decide, by decide⟩, _, rfl, ed_var rfl ⟨_, rfl, by omega, n + 1, rfl, ?_⟩⟩⟩)))
            obtain ⟨k, hk, hk2⟩ := nat_of (Int.emod_nonneg (y2 / 32) (by omega : (m : Int) ≠ 0)) (Int.emod_lt_of_pos (y2 / 32) (by omega : (0 : Int) < m))
            rw [hk]
            exact r k hk2
end G

/-! ## part 19 -/
set_option Elab.async false
set_option linter.all false
set_option maxRecDepth 100000
set_option maxHeartbeats 2000000
namespace G
open PySem PySem.Spec PyProof.Rows L2
/-! ### names -/
def StrOk (x : Str) : Prop := PyData.canLay0 (.str x) = true
theorem strOk_iff {x : Str} : StrOk x ↔ ∀ c ∈ x.cps.toList, c < 1114112 := by
  unfold StrOk
  simp only [PyData.canLay0]
  unfold PyData.strOk
  rw [Array.all_eq_true']
  simp [Array.mem_toList_iff]
theorem strOk_one {c : Nat} (h : c < 1114112) : StrOk ⟨#[c]⟩ := strOk_iff.mpr fun d hd => by simp at hd; subst hd; exact h
theorem strOk_join (a : Str) (ha : StrOk a) (ys : List Str) (h : ∀ y ∈ ys, StrOk y) : StrOk (Txt.join a ys) := by
  have fold : ∀ (l : List Str) (acc : Array Nat), (∀ c ∈ acc.toList, c < 1114112) → (∀ y ∈ l, StrOk y) → ∀ c ∈ (l.foldl (fun acc p => acc ++ a.cps ++ p.cps) acc).toList, c < 1114112 := by
    intro l
    induction l with
    | nil => intro acc h1 _; exact h1
    | cons y l ih =>
      intro acc h1 h2
      refine ih _ (fun c hc => ?_) fun z hz => h2 z (List.mem_cons_of_mem _ hz)
      rw [Array.toList_append, Array.toList_append, List.mem_append, List.mem_append] at hc
      rcases hc with (hc | hc) | hc
      · exact h1 c hc
      · exact strOk_iff.mp ha c hc
      · exact strOk_iff.mp (h2 y List.mem_cons_self) c hc
  refine strOk_iff.mpr ?_
  show ∀ c ∈ (Txt.join a ys).cps.toList, _
  unfold Txt.join Builtin.Str.glued
  refine fold _ _ ?_ fun y hy => h y (List.mem_of_mem_drop hy)
  cases ys with
  | nil => intro c hc; simp [Str.empty] at hc
  | cons y ys => exact strOk_iff.mp (h y List.mem_cons_self)
def letters : Str := "abcdefghijklmnopqrstuvwxyz"
theorem letter_at {z : Int} (h0 : 0 ≤ z) (h1 : z < 26) : ∃ c, atI letters.cps.toList z = some c ∧ c < 1114112 := by
  have aux : ∀ r : Fin 26, ∃ c, letters.cps.toList[r.val]? = some c ∧ c < 1114112 := by
    intro r
    have hl : letters.cps.toList.length = 26 := by decide +kernel
    have hall : letters.cps.toList.all (· < 1114112) = true := by decide +kernel
    refine ⟨letters.cps.toList[r.val]'(by omega), List.getElem?_eq_getElem (by omega), ?_⟩
    have := List.all_eq_true.mp hall _ (List.getElem_mem (by omega : r.val < letters.cps.toList.length))
    simpa using this
  obtain ⟨c, h2, h3⟩ := aux ⟨z.toNat, by omega⟩
  exact ⟨c, atI_of h0 h2, h3⟩
theorem letters_len : letters.length ≤ sizeLine := small (m := 100) (by show letters.cps.size ≤ 100; decide +kernel)
theorem sum_ones : ∀ {ys : List Str}, (∀ y ∈ ys, y.length = 1) → (ys.map (·.length)).sum = ys.length
  | [], _ => rfl
  | y :: ys, h => by
    rw [List.map_cons, List.sum_cons, sum_ones fun z hz => h z (List.mem_cons_of_mem _ hz), h y List.mem_cons_self, List.length_cons]; omega
theorem alike_str (x y : Str) : PySem.W.alike (.str x) (.str y) = true := by simp [PySem.W.alike]
theorem alike_int (x y : Int) : PySem.W.alike (.int x) (.int y) = true := by simp [PySem.W.alike]
theorem depth_str (x : Str) : (PyData.str x).depth ≤ 40 := by simp [PyData.depth]
theorem depth_int (x : Int) : (PyData.int x).depth ≤ 40 := by simp [PyData.depth]
section
variable {Γ : List Sv} {ta : TE} {K : PySem.W.Frag} {R : List Sv → Sv → Prop}
theorem ew_sortedS (h : Es ta Γ fun Γ1 _ ds => ∃ xs : List Str, ds = xs.map PyData.str ∧ xs.length ≤ 1000 ∧ ∀ ys : List Str, ys.Perm xs → R Γ1 (.o (Ol (ys.map PyData.str)))) : Ew (tCB (rSortedD K) (tCons ta tNil)) Γ R := by
  refine ew_sorted ?_
  intro B0 H0 B σ H S Q k
  refine h B0 H0 B σ H S Q fun Γ1 b ds a vs B1 H1 h1 => k Γ1 b ds a vs B1 H1 ?_
  obtain ⟨xs, rfl, hx, hr⟩ := h1
  refine ⟨fun d hd d' hd' => ?_, .inr fun d hd => ?_, small (m := 1000) (by simpa using hx), fun d hd => ?_, ?_⟩
  · obtain ⟨x, _, rfl⟩ := List.mem_map.mp hd
    obtain ⟨y, _, rfl⟩ := List.mem_map.mp hd'
    exact alike_str x y
  · obtain ⟨x, _, rfl⟩ := List.mem_map.mp hd
    exact ⟨by simp, by simp⟩
  · obtain ⟨x, _, rfl⟩ := List.mem_map.mp hd
    exact depth_str x
  · obtain ⟨ys, e1, e2⟩ := sort_code PyData.str xs
    rw [e1]
    exact hr ys e2
theorem ew_sortedI (h : Es ta Γ fun Γ1 _ ds => ∃ xs : List Int, ds = xs.map PyData.int ∧ xs.length ≤ 1000 ∧ ∀ ys : List Int, ys.Perm xs → ys.Pairwise (· ≤ ·) → R Γ1 (.o (Ol (ys.map PyData.int)))) : Ew (tCB (rSortedD K) (tCons ta tNil)) Γ R := by
  refine ew_sorted ?_
  intro B0 H0 B σ H S Q k
  refine h B0 H0 B σ H S Q fun Γ1 b ds a vs B1 H1 h1 => k Γ1 b ds a vs B1 H1 ?_
  obtain ⟨xs, rfl, hx, hr⟩ := h1
  refine ⟨fun d hd d' hd' => ?_, .inr fun d hd => ?_, small (m := 1000) (by simpa using hx), fun d hd => ?_, ?_⟩
  · obtain ⟨x, _, rfl⟩ := List.mem_map.mp hd
    obtain ⟨y, _, rfl⟩ := List.mem_map.mp hd'
    exact alike_int x y
  · obtain ⟨x, _, rfl⟩ := List.mem_map.mp hd
    exact ⟨by simp, by simp⟩
  · obtain ⟨x, _, rfl⟩ := List.mem_map.mp hd
    exact depth_int x
  · have e1 : sortD (xs.map PyData.int) = (xs.mergeSort (fun a b => decide (a ≤ b))).map PyData.int := by
      unfold sortD
      rw [List.map_mergeSort]
      intro a _ b _
      have := congrFun (congrFun (PySem.W.dataLe_int (β := Int) id) a) b
      exact this.symm
    rw [e1]
    refine hr _ (List.mergeSort_perm _ _) ?_
    have := List.pairwise_mergeSort (le := fun a b : Int => decide (a ≤ b)) (fun a b c h1 h2 => by simp at *; omega) (fun a b => by simp; omega) xs
    exact this.imp fun h => by simpa using h
end
def S_law_names (n : Nat) (ds : List PyData) (R : Nat → Sv → Prop) : Prop := n ≤ 50000 ∧ ∃ k : Nat, k ≤ 8 ∧ ds = [.int k] ∧ ∀ (m : Nat) (ns : List Str), m ≤ n + 100 → ns.length = k → (∀ x ∈ ns, StrOk x) → R m (.o (Ol (ns.map PyData.str)))
theorem w_law_names {K : PySem.W.Frag} (p : Addr) (n : Nat) (ds : List PyData) (R : Nat → Sv → Prop) (hl : ds.length = 1) (h : S_law_names n ds R) :
    Sw (t_law_names K (SpP 1 S_law_draw)) (.o (Op p n) :: (ds.map Sv.d ++ List.replicate (N_law_names.length - 2) .no)) (fun Γ' => ∃ m', Γ'[0]? = some (.o (Op p m')) ∧ R m' (.d .none)) (fun Γ' s => ∃ m', Γ'[0]? = some (.o (Op p m')) ∧ R m' s) (fun _ => False) (fun _ => False) := by
  obtain ⟨hn, many, hk, rfl, r⟩ := h
  unfold t_law_names
  show Sw _ [.o (Op p n), .d (.int many), .no, .no, .no, .no, .no, .no, .no] _ _ _ _
  refine sw_seq (sw_set (ed_str ⟨lt_r rfl, ?_⟩))
  refine sw_seq (sw_set (ed_ew (ew_callP rfl (ea_cons (ed_int (ea_nil ⟨n, rfl, rfl, by omega, 26, by decide, by decide, rfl, fun st hst => ⟨_, rfl, lt_r rfl, ?_⟩⟩))))))
  refine sw_seq (sw_setO (ew_lst (ea_nil ⟨smallr rfl, _, rfl, lt_r rfl, ?_⟩)))
  refine sw_cut (fun Γ => ∃ (n' : Nat) (ns : List Str) (s5 s6 s7 : Sv), n' ≤ n + 1 + 8 * many ∧ ns.length = many ∧ (∀ x ∈ ns, StrOk x) ∧ Γ = [.o (Op p n'), .d (.int many), .d (.str letters), .d (.int st), .o (Ol (ns.map PyData.str)), s5, s6, s7, .no])
    (sw_forL (List.range many) (fun j => .int (j : Int)) (fun pre Γ => ∃ (n' : Nat) (ns : List Str) (s5 s6 s7 : Sv), n' ≤ n + 1 + 8 * pre.length ∧ ns.length = pre.length ∧ (∀ x ∈ ns, StrOk x) ∧ Γ = [.o (Op p n'), .d (.int many), .d (.str letters), .d (.int st), .o (Ol (ns.map PyData.str)), s5, s6, s7, .no]) ?_) ?_
  · refine iw_rng (ea_cons (ed_var rfl (ea_nil ⟨many, rfl, by omega, rfl, ⟨n + 1, [], .no, .no, .no, by simp, rfl, by simp, rfl⟩, fun pre k post Γ2 e iv => ?_, fun Γ2 iv => ?_⟩)))
    · obtain ⟨n', ns, s5, s6, s7, hn', hns, hok, rfl⟩ := iv
      have hpl : pre.length < many := by
        have := congrArg List.length e
        simp at this
        omega
      have hkm : k < many := List.mem_range.mp (by rw [e]; simp)
      refine sg_name (lt_r rfl) (sw_seq (sw_set (ed_ew (ew_callP rfl (ea_cons (ed_int (ea_nil ⟨n', rfl, rfl, by omega, 8, by decide, by decide, rfl, fun sz hsz => ⟨_, rfl, lt_r rfl, ?_⟩⟩)))))))
      refine sw_seq (sw_set (ed_new (ew_lcL (List.range sz) (fun j => .int (j : Int)) (fun q Γ acc => ∃ (n'' : Nat) (ys : List Str), n'' ≤ n' + 1 + q.length ∧ ys.length = q.length ∧ (∀ y ∈ ys, StrOk y ∧ y.length = 1) ∧ acc = ys.map PyData.str ∧ Γ = [.o (Op p n''), .d (.int many), .d (.str letters), .d (.int st), .o (Ol (ns.map PyData.str)), .d (.int k), .d (.int sz), s7, .no]) mon_name tch1 ?_)))
      refine iw_rng (ea_cons (ed_var rfl (ea_nil ⟨sz, rfl, by omega, rfl, small (m := 8) (by simp; omega), ⟨n' + 1, [], by simp, rfl, by simp, rfl, rfl⟩, fun q j q2 Γ3 acc e3 iv => ?_, fun Γ3 acc iv => ?_⟩)))
      · obtain ⟨n'', ys, h1, h2, h3, rfl, rfl⟩ := iv
        have hql : q.length < sz := by
          have := congrArg List.length e3
          simp at this
          omega
        refine sg_name (lt_r rfl) (et_yes ⟨fun _ => ?_, fun z => Bool.noConfusion z⟩)
        refine ed_ixS (ed_var rfl ⟨letters, rfl, letters_len, ed_ew (ew_callP rfl (ea_cons (ed_int (ea_nil ⟨n'', rfl, rfl, by omega, 26, by decide, by decide, rfl, fun c hc => ⟨_, rfl, ?_⟩⟩))))⟩)
        obtain ⟨ch, hch, hch2⟩ := letter_at (z := (c : Int)) (by omega) (by omega)
        refine ⟨_, ch, rfl, hch, n'' + 1, ys ++ [⟨#[ch]⟩], by simp; omega, by simp [h2], fun y hy => ?_, by simp, rfl⟩
        rcases List.mem_append.mp hy with hy | hy
        · exact h3 y hy
        · have : y = ⟨#[ch]⟩ := by simpa using hy
          subst this
          exact ⟨strOk_one hch2, rfl⟩
      · obtain ⟨n'', ys, h1, h2, h3, rfl, rfl⟩ := iv
        have hys : ys.length < 8 := by rw [h2]; simp; omega
        have hn2 : n'' ≤ n' + 8 := by simp at h1; omega
        refine ⟨_, rfl, lt_r rfl, ?_⟩
        obtain ⟨ch, hch, hch2⟩ := letter_at (z := ((st : Int) + 5 * (k : Int)) % 26) (Int.emod_nonneg _ (by decide)) (Int.emod_lt_of_pos _ (by decide))
        refine sw_app ⟨_, _, rfl⟩ (ed_join (ed_str ⟨_, rfl, ed_new (ew_cat (ed_new (ew_lst (ea_cons (ed_ixS (ed_var rfl ⟨letters, rfl, letters_len, ed_I (ed_I0 (ed_var rfl ⟨_, rfl, ed_I (ed_int ⟨_, rfl, ed_var rfl ⟨_, rfl, .inl ⟨by decide, by decide⟩, _, rfl, _, rfl, ed_int ⟨_, rfl, by decide, _, ch, rfl, hch, ea_nil ⟨smallr rfl, _, rfl, _, rfl, ed_var rfl ⟨_, rfl, ?_, _, rfl, (⟨#[ch]⟩ : Str) :: ys, rfl, ?_, _, _, rfl, ?_, n'', ns ++ [Txt.join Str.empty ((⟨#[ch]⟩ : Str) :: ys)], .d (.int k), .d (.int sz), .d (.list (ys.map PyData.str)), ?_, ?_, ?_, ?_⟩⟩⟩⟩⟩)⟩))⟩))))))⟩))
        · simp
          rw [sizeLine_eq]; omega
        · rw [sum_ones, show (Str.ofString "").length = 0 from by decide +kernel]
          · simp; omega
          · intro y hy
            rcases List.mem_cons.mp hy with rfl | hy
            · rfl
            · exact (h3 y hy).2
        · rw [List.length_map, sizeLine_eq]; omega
        · rw [List.length_append]; simp; omega
        · simp [hns]
        · intro x hx
          rcases List.mem_append.mp hx with hx | hx
          · exact hok x hx
          · have : x = Txt.join Str.empty ((⟨#[ch]⟩ : Str) :: ys) := by simpa using hx
            subst this
            refine strOk_join _ (strOk_iff.mpr (by simp [Str.empty])) _ fun y hy => ?_
            rcases List.mem_cons.mp hy with rfl | hy
            · exact strOk_one hch2
            · exact (h3 y hy).1
        · rw [List.map_append]
          rfl
    · obtain ⟨n', ns, s5, s6, s7, hn', hns, hok, rfl⟩ := iv
      rw [List.length_range] at hn' hns
      exact ⟨n', ns, s5, s6, s7, hn', hns, hok, rfl⟩
  · rintro Γ1 ⟨n', ns, s5, s6, s7, hn', hns, hok, rfl⟩
    refine sw_ret (ew_sortedS (es_own rfl ⟨ns, rfl, by omega, fun ys hp => ⟨n', rfl, r n' ys (by omega) (by rw [hp.length_eq, hns]) fun x hx => hok x (hp.mem_iff.mp hx)⟩⟩))
end G

/-! ## part 20 -/
set_option Elab.async false
set_option linter.all false
set_option maxRecDepth 100000
set_option maxHeartbeats 2000000
namespace G
open PySem PySem.Spec PyProof.Rows L2
/-! ### word -/
def TOk (ns : List Str) (t : Trn) : Prop := t.name ∈ ns ∧ (t.way = 0 ∨ t.way = 1)
def Wok (x : Wire) : Prop := x.val = 0 ∨ x.val = 1
theorem pick2 (a b : Str) {r : Nat} (h : r < 2) : ∃ sd : Str, atI [PyData.str a, PyData.str b] (r : Int) = some (.str sd) := by
  match r, h with
  | 0, _ => exact ⟨a, atI_ofNat rfl⟩
  | 1, _ => exact ⟨b, atI_ofNat rfl⟩
theorem lay_turns : ∀ {l : List Trn}, (∀ t ∈ l, StrOk t.name) → PyData.canLayAll0 (l.map Trn.D) = true
  | [], _ => by simp [PyData.canLayAll0]
  | t :: l, h => by
    have h1 := h t List.mem_cons_self
    have h2 := lay_turns fun x hx => h x (List.mem_cons_of_mem _ hx)
    unfold StrOk at h1
    simp [PyData.canLayAll0, Trn.D, PyData.canLay0, h2]
    simpa [PyData.canLay0] using h1
theorem depth_turns : ∀ l : List Trn, PyData.depthAll (l.map Trn.D) ≤ 1
  | [] => by simp [PyData.depthAll]
  | t :: l => by
    have := depth_turns l
    simp [PyData.depthAll, Trn.D, PyData.depth]
    omega
def lD (l : List Trn) : PyData := .list (l.map Trn.D)
theorem shaped_lD {l : List Trn} (h : ∀ t ∈ l, StrOk t.name) : SeqAt.shaped (lD l) = true := by
  have := depth_turns l
  simp [SeqAt.shaped, lD, PyData.canLay0, lay_turns h, PyData.depth]
  omega
theorem lay_lls : ∀ {ls : List (List Trn)}, (∀ l ∈ ls, ∀ t ∈ l, StrOk t.name) → PyData.canLayAll0 (ls.map lD) = true
  | [], _ => by simp [PyData.canLayAll0]
  | l :: ls, h => by
    have h1 := lay_turns (h l List.mem_cons_self)
    have h2 := lay_lls fun x hx => h x (List.mem_cons_of_mem _ hx)
    simp [PyData.canLayAll0, lD, PyData.canLay0, h1]
    exact h2
theorem depth_lls : ∀ ls : List (List Trn), PyData.depthAll (ls.map lD) ≤ 2
  | [] => by simp [PyData.depthAll]
  | l :: ls => by
    have := depth_lls ls
    have := depth_turns l
    have e : (lD l).depth ≤ 2 := by simp [lD, PyData.depth]; omega
    show max (lD l).depth (PyData.depthAll (ls.map lD)) ≤ 2
    omega
theorem shaped_lls {ls : List (List Trn)} (h : ∀ l ∈ ls, ∀ t ∈ l, StrOk t.name) : SeqAt.shaped (.list (ls.map lD)) = true := by
  have := depth_lls ls
  simp [SeqAt.shaped, PyData.canLay0, lay_lls h, PyData.depth]
  omega
def tot (ls : List (List Trn)) : Nat := (ls.map (·.length)).sum
theorem tot_cons (l : List Trn) (ls : List (List Trn)) : tot (l :: ls) = l.length + tot ls := by simp [tot]
theorem tot_append (a b : List (List Trn)) : tot (a ++ b) = tot a + tot b := by simp [tot]
theorem tot_set : ∀ {ls : List (List Trn)} {r : Nat} {t : Trn} {rest : List Trn}, ls[r]? = some (t :: rest) → tot (ls.set r rest) + 1 = tot ls
  | [], r, _, _, h => by simp at h
  | l :: ls, 0, t, rest, h => by
    have : l = t :: rest := by simpa using h
    subst this
    show tot (rest :: ls) + 1 = tot ((t :: rest) :: ls)
    rw [tot_cons, tot_cons, List.length_cons]; omega
  | l :: ls, r + 1, t, rest, h => by
    have := tot_set (ls := ls) (r := r) (by simpa using h)
    show tot (l :: ls.set r rest) + 1 = tot (l :: ls)
    rw [tot_cons, tot_cons]; omega
theorem tot_filter : ∀ ls : List (List Trn), tot (ls.filter fun l => !l.isEmpty) = tot ls
  | [] => rfl
  | l :: ls => by
    have ih := tot_filter ls
    cases l with
    | nil => show tot (ls.filter _) = tot ([] :: ls); rw [tot_cons, ih]; simp
    | cons t l => show tot ((t :: l) :: ls.filter _) = _; rw [tot_cons, tot_cons, ih]
theorem len_tot : ∀ {ls : List (List Trn)}, (∀ l ∈ ls, l ≠ []) → ls.length ≤ tot ls
  | [], _ => by simp
  | l :: ls, h => by
    have ih := len_tot fun x hx => h x (List.mem_cons_of_mem _ hx)
    have h1 := List.length_pos_iff.mpr (h l List.mem_cons_self)
    rw [tot_cons, List.length_cons]; omega
theorem filter_lD (ls : List (List Trn)) : ls.filterMap (fun l => if l.isEmpty = true then none else some (lD l)) = (ls.filter fun l => !l.isEmpty).map lD := by
  induction ls with
  | nil => rfl
  | cons l ls ih =>
    cases l with
    | nil => exact ih
    | cons t l => exact congrArg (lD (t :: l) :: ·) ih
theorem le_sum_mem : ∀ {rs : List Nat} {r : Nat}, r ∈ rs → r ≤ rs.sum
  | x :: rs, r, h => by
    rw [List.sum_cons]
    rcases List.mem_cons.mp h with e | e
    · omega
    · have := le_sum_mem e
      omega
def nrD (p : Str × Nat) : PyData := .tuple [.str p.1, .int (p.2 : Int)]
def S_law_word (n : Nat) (ds : List PyData) (R : Nat → Sv → Prop) : Prop := n ≤ 60000 ∧ ∃ (ns : List Str) (rs : List Nat), ns.length = rs.length ∧ ns.length ≤ 6 ∧ rs.sum ≤ 6 ∧ (∀ r ∈ rs, 1 ≤ r) ∧ (∀ x ∈ ns, StrOk x) ∧ ds = [.list (ns.map PyData.str), .list (rs.map fun (r : Nat) => PyData.int (r : Int))] ∧
  ∀ (m : Nat) (ws : List Wire) (ts : List Trn), m ≤ n + 100 → ws.map (·.name) = ns → (∀ x ∈ ws, Wok x) → ts.length = 2 * rs.sum → (∀ t ∈ ts, TOk ns t) → R m (.d (.tuple [.tuple (ws.map Wire.D), .tuple (ts.map Trn.D)]))
theorem w_law_word {K : PySem.W.Frag} (p : Addr) (n : Nat) (ds : List PyData) (R : Nat → Sv → Prop) (hl : ds.length = 2) (h : S_law_word n ds R) :
    Sw (t_law_word K (SpP 1 S_law_draw)) (.o (Op p n) :: (ds.map Sv.d ++ List.replicate (N_law_word.length - 3) .no)) (fun Γ' => ∃ m', Γ'[0]? = some (.o (Op p m')) ∧ R m' (.d .none)) (fun Γ' s => ∃ m', Γ'[0]? = some (.o (Op p m')) ∧ R m' s) (fun _ => False) (fun _ => False) := by
  obtain ⟨hn, ns, rs, hnr, hns, hrs, hr1, hok, rfl, r⟩ := h
  unfold t_law_word
  show Sw _ [.o (Op p n), .d (.list (ns.map PyData.str)), .d (.list (rs.map fun (r : Nat) => PyData.int (r : Int))), .no, .no, .no, .no, .no, .no, .no, .no] _ _ _ _
  refine sw_seq (sw_setO (ew_lst (ea_nil ⟨smallr rfl, _, rfl, lt_r rfl, ?_⟩)))
  refine sw_seq (sw_setO (ew_lst (ea_nil ⟨smallr rfl, _, rfl, lt_r rfl, ?_⟩)))
  refine sw_cut (fun Γ => ∃ (n' : Nat) (ws : List Wire) (ls : List (List Trn)) (s5 s6 s7 : Sv), n' ≤ n + 12 ∧ ws.map (·.name) = ns ∧ (∀ x ∈ ws, Wok x) ∧ tot ls = 2 * rs.sum ∧ (∀ l ∈ ls, l ≠ [] ∧ ∀ t ∈ l, TOk ns t) ∧ Γ = [.o (Op p n'), .d (.list (ns.map PyData.str)), .d (.list (rs.map fun (r : Nat) => PyData.int (r : Int))), .o (Ol (ws.map Wire.D)), .o (Ol (ls.map lD)), s5, s6, s7, .no, .no, .no])
    (sw_forL (ns.zip rs) nrD (fun pre Γ => ∃ (n' : Nat) (ws : List Wire) (ls : List (List Trn)) (s5 s6 s7 : Sv), n' ≤ n + 2 * pre.length ∧ ws.map (·.name) = pre.map (·.1) ∧ (∀ x ∈ ws, Wok x) ∧ tot ls = 2 * (pre.map (·.2)).sum ∧ ls.length = pre.length ∧ (∀ l ∈ ls, l ≠ [] ∧ ∀ t ∈ l, TOk ns t) ∧ Γ = [.o (Op p n'), .d (.list (ns.map PyData.str)), .d (.list (rs.map fun (r : Nat) => PyData.int (r : Int))), .o (Ol (ws.map Wire.D)), .o (Ol (ls.map lD)), s5, s6, s7, .no, .no, .no]) ?_) ?_
  · refine iw_zip (ea_cons (ed_var rfl (ea_cons (ed_var rfl (ea_nil ⟨_, _, .inl rfl, zipD_map _ _ _ _, ⟨n, [], [], .no, .no, .no, by simp, rfl, by simp, rfl, rfl, by simp, rfl⟩, fun pre x post Γ2 e iv => ?_, fun Γ2 iv => ?_⟩)))))
    · obtain ⟨n', ws, ls, s5, s6, s7, h1, h2, h3, h4, h5, h6, rfl⟩ := iv
      have hx : x ∈ ns.zip rs := by rw [e]; simp
      have hx1 := (List.of_mem_zip hx).1
      have hx2 := (List.of_mem_zip hx).2
      have hpl : pre.length < 6 := by
        have := congrArg List.length e
        rw [List.length_zip] at this
        simp at this
        omega
      have hx2' : x.2 ≤ 6 := Nat.le_trans (le_sum_mem hx2) hrs
      have hwl : ws.length = pre.length := by have := congrArg List.length h2; simpa using this
      refine sg_tup ⟨_, rfl, rfl, sgs_cons (sg_name (lt_r rfl) (sgs_cons (sg_name (lt_r rfl) (sgs_nil ?_))))⟩
      refine sw_seq (sw_set (ed_ew (ew_callP rfl (ea_cons (ed_int (ea_nil ⟨n', rfl, rfl, by omega, 2, by decide, by decide, rfl, fun v hv => ⟨_, rfl, lt_r rfl, ?_⟩⟩))))))
      refine sw_seq (sw_app ⟨_, _, rfl⟩ (ed_tup (ea_cons (ed_var rfl (ea_cons (ed_ixL (ed_new (ew_lst (ea_cons (ed_str (ea_cons (ed_str (ea_nil ⟨smallr rfl, _, rfl, _, rfl, ed_ew (ew_callP rfl (ea_cons (ed_int (ea_nil ⟨n' + 1, rfl, rfl, by omega, 2, by decide, by decide, rfl, fun q hq => ⟨_, rfl, ?_⟩⟩))))⟩)))))))))))))
      obtain ⟨sd, hsd⟩ := pick2 "ask" "answer" hq
      refine ⟨_, .str sd, rfl, hsd, ea_cons (ed_var rfl (ea_nil ⟨smallr rfl, _, _, rfl, by rw [List.length_map, sizeLine_eq]; omega, ?_⟩))⟩
      refine sw_app ⟨_, _, rfl⟩ (ed_new (ew_rep (ed_new (ew_lst (ea_cons (ed_tup (ea_cons (ed_var rfl (ea_cons (ed_I0 (ed_int ⟨_, rfl, ed_var rfl ⟨_, rfl, ea_nil ⟨smallr rfl, ea_cons (ed_tup (ea_cons (ed_var rfl (ea_cons (ed_var rfl (ea_nil ⟨smallr rfl, ea_nil ⟨smallr rfl, _, rfl, _, rfl, ed_var rfl ⟨x.2, rfl, ?_, ?_, _, rfl, _, _, rfl, ?_, ?_⟩⟩⟩))))))⟩⟩⟩)))))))))))
      · simp; rw [sizeLine_eq]; omega
      · have : (2 : Nat) ^ 60 = 1152921504606846976 := by decide
        omega
      · rw [List.length_map, sizeLine_eq]; omega
      · have hv01 : (v : Int) = 0 ∨ (v : Int) = 1 := by omega
        refine ⟨n' + 2, ws ++ [⟨x.1, sd, v⟩], ls ++ [(List.replicate x.2 [(⟨x.1, 1 - v⟩ : Trn), ⟨x.1, v⟩]).flatten], .d (.str x.1), .d (.int x.2), .d (.int v), by rw [List.length_append, List.length_singleton]; omega, by simp [h2], fun y hy => ?_, ?_, by simp [h5], fun l hl => ?_, ?_⟩
        · rcases List.mem_append.mp hy with hy | hy
          · exact h3 y hy
          · have : y = ⟨x.1, sd, v⟩ := by simpa using hy
            subst this
            exact hv01
        · rw [tot_append, h4, List.map_append, List.sum_append]
          simp [tot]
          omega
        · rcases List.mem_append.mp hl with hl | hl
          · exact h6 l hl
          · have : l = (List.replicate x.2 [(⟨x.1, 1 - v⟩ : Trn), ⟨x.1, v⟩]).flatten := by simpa using hl
            subst this
            have := hr1 _ hx2
            refine ⟨fun e => ?_, fun t ht => ?_⟩
            · have := congrArg List.length e
              simp at this
              omega
            · obtain ⟨l, hl, ht⟩ := List.mem_flatten.mp ht
              have : l = [(⟨x.1, 1 - v⟩ : Trn), ⟨x.1, v⟩] := (List.mem_replicate.mp hl).2
              subst this
              rcases List.mem_cons.mp ht with rfl | ht
              · exact ⟨hx1, by dsimp only; omega⟩
              · have : t = ⟨x.1, v⟩ := by simpa using ht
                subst this
                exact ⟨hx1, hv01⟩
        · rw [List.map_append, List.map_append, List.map_singleton, List.map_singleton]
          have e5 : lD (List.replicate x.2 [(⟨x.1, 1 - v⟩ : Trn), ⟨x.1, v⟩]).flatten = .list (List.replicate x.2 [PyData.tuple [.str x.1, .int (1 - v)], .tuple [.str x.1, .int v]]).flatten := by
            unfold lD
            rw [List.map_flatten, List.map_replicate]
            rfl
          rw [e5]
          rfl
    · obtain ⟨n', ws, ls, s5, s6, s7, h1, h2, h3, h4, h5, h6, rfl⟩ := iv
      rw [List.map_fst_zip (by omega)] at h2
      rw [List.map_snd_zip (by omega)] at h4
      refine ⟨n', ws, ls, s5, s6, s7, ?_, h2, h3, h4, h6, rfl⟩
      rw [List.length_zip] at h1
      omega
  · rintro Γ1 ⟨n1, ws, ls0, s5, s6, s7, h1, h2, h3, h4, h6, rfl⟩
    refine sw_seq (sw_setO (ew_lst (ea_nil ⟨smallr rfl, _, rfl, lt_r rfl, ?_⟩)))
    refine sw_cut (fun Γ => ∃ (n' : Nat) (ls : List (List Trn)) (ts : List Trn) (s9 : Sv), n' ≤ n + 50 ∧ ts.length = 2 * rs.sum ∧ (∀ t ∈ ts, TOk ns t) ∧ Γ = [.o (Op p n'), .d (.list (ns.map PyData.str)), .d (.list (rs.map fun (r : Nat) => PyData.int (r : Int))), .o (Ol (ws.map Wire.D)), .o (Ol (ls.map lD)), s5, s6, s7, .o (Ol (ts.map Trn.D)), s9, .no])
      (sw_while (fun m Γ => ∃ (n' : Nat) (ls : List (List Trn)) (ts : List Trn) (s9 : Sv), n' + m ≤ n1 + 12 ∧ tot ls = m ∧ ts.length + m = 2 * rs.sum ∧ (∀ l ∈ ls, l ≠ [] ∧ ∀ t ∈ l, TOk ns t) ∧ (∀ t ∈ ts, TOk ns t) ∧ Γ = [.o (Op p n'), .d (.list (ns.map PyData.str)), .d (.list (rs.map fun (r : Nat) => PyData.int (r : Int))), .o (Ol (ws.map Wire.D)), .o (Ol (ls.map lD)), s5, s6, s7, .o (Ol (ts.map Trn.D)), s9, .no]) (2 * rs.sum) ?_ ?_) ?_
    · exact ⟨n1, ls0, [], .no, by omega, h4, by simp, h6, by simp, rfl⟩
    · rintro m Γ2 ⟨n', ls, ts, s9, hn', rfl, htl, hls, hts, rfl⟩
      have hsok : ∀ l ∈ ls, ∀ t ∈ l, StrOk t.name := fun l hl t ht => hok _ ((hls l hl).2 t ht).1
      refine et_test (ed_neOwn rfl (shaped_lls hsok) ⟨_, rfl, fun hb => ?_, fun hb => ?_⟩)
      · have hne : ls ≠ [] := fun e => by rw [e] at hb; simp at hb
        have hlen := len_tot fun l hl => (hls l hl).1
        have hpos := List.length_pos_iff.mpr hne
        refine sw_seq (sw_set (ed_ew (ew_callP rfl (ea_cons (ed_len (es_own rfl (ea_nil ⟨n', rfl, rfl, by omega, ls.length, by omega, by omega, by simp, fun q hq => ⟨_, rfl, lt_r rfl, ?_⟩⟩)))))))
        obtain ⟨l, hlq⟩ : ∃ l, ls[q]? = some l := ⟨ls[q], List.getElem?_eq_getElem hq⟩
        have hlm := List.mem_of_getElem? hlq
        obtain ⟨hl0, hl1⟩ := hls l hlm
        obtain ⟨t, rest, rfl⟩ : ∃ t rest, l = t :: rest := by
          cases l with
          | nil => exact absurd rfl hl0
          | cons t rest => exact ⟨t, rest, rfl⟩
        refine sw_seq (sw_app ⟨_, _, rfl⟩ (ed_ixLc (ed_ixO ⟨_, rfl⟩ (ed_var rfl ⟨_, _, _, lD (t :: rest), rfl, rfl, atI_ofNat (by rw [List.getElem?_map, hlq]; rfl), _, t.D, rfl, atI_ofNat (i := 0) rfl, _, _, rfl, by rw [List.length_map, sizeLine_eq]; omega, ?_⟩))))
        refine sw_seq (sw_sub (ed_new (ew_slL (ed_ixO ⟨_, rfl⟩ (ed_var rfl ⟨_, _, _, lD (t :: rest), rfl, rfl, atI_ofNat (by rw [List.getElem?_map, hlq]; rfl), _, rfl, eo_some (ed_int ⟨_, rfl, eo_none ⟨_, rfl, ⟨_, rfl⟩, ed_var rfl ⟨_, _, q, _, rfl, rfl, ixN_nat (by rw [List.length_map]; exact hq), ?_⟩⟩⟩)⟩)))))
        have ec : PyData.list (cutD ((t :: rest).map Trn.D) (some 1) none) = lD rest := by
          have := cut_from (ds := (t :: rest).map Trn.D) (j := 1) (by simp)
          unfold lD
          rw [show (some (1 : Int)) = some ((1 : Nat) : Int) from rfl, this]
          rfl
        rw [ec, ← List.map_set]
        refine sw_setO (ew_lcMg (Γ1 := [.o (Op p (n' + 1)), .d (.list (ns.map PyData.str)), .d (.list (rs.map fun (r : Nat) => PyData.int (r : Int))), .o (Ol (ws.map Wire.D)), .no, s5, s6, s7, .o (Ol (ts.map Trn.D ++ [t.D])), .d (.int q), .no]) (ls.set q rest) lD (fun l => if l.isEmpty = true then none else some (lD l)) mon_name tch1 (iw_list (ed_ew (ew_own rfl ⟨_, ⟨_, rfl, rfl⟩, _, rfl, rfl, rfl, by rw [List.length_set, sizeLine_eq]; omega⟩))) (fun l hl => ?_) ⟨_, rfl, lt_r rfl, ?_⟩)
        · have hlok : ∀ t ∈ l, StrOk t.name := by
            rcases List.mem_or_eq_of_mem_set hl with hl | hl
            · exact hsok l hl
            · subst hl
              exact fun x hx => hok _ (hl1 x (List.mem_cons_of_mem _ hx)).1
          refine sg_name (lt_r rfl) (et_test (ed_neD (ed_var rfl (ed_new (ew_lst (ea_nil ⟨smallr rfl, [], rfl, shaped_lD hlok, shaped_nil, _, rfl, fun hb => ?_, fun hb => ?_⟩))))))
          · refine ed_var rfl ⟨rfl, ?_⟩
            cases l with
            | nil => simp [lD, eqv_nil] at hb
            | cons _ _ => rfl
          · refine ⟨rfl, ?_⟩
            cases l with
            | nil => rfl
            | cons _ _ => simp [lD, eqv_nil] at hb
        · rw [filter_lD]
          have et := tot_set hlq
          refine ⟨tot ls - 1, by omega, n' + 1, (ls.set q rest).filter (fun l => !l.isEmpty), ts ++ [t], .d (.int q), by omega, by rw [tot_filter]; omega, by simp; omega, fun l hl => ?_, fun x hx => ?_, ?_⟩
          · obtain ⟨hl1', hl2'⟩ := List.mem_filter.mp hl
            refine ⟨fun e => by rw [e] at hl2'; simp at hl2', ?_⟩
            rcases List.mem_or_eq_of_mem_set hl1' with hl | hl
            · exact (hls l hl).2
            · subst hl
              exact fun x hx => hl1 x (List.mem_cons_of_mem _ hx)
          · rcases List.mem_append.mp hx with hx | hx
            · exact hts x hx
            · have : x = t := by simpa using hx
              subst this
              exact hl1 x List.mem_cons_self
          · rw [List.map_append]
            rfl
      · have he : ls = [] := by
          cases ls with
          | nil => rfl
          | cons _ _ => simp at hb
        subst he
        have : tot ([] : List (List Trn)) = 0 := rfl
        exact ⟨n', [], ts, s9, by omega, by omega, hts, rfl⟩
    · rintro Γ2 ⟨n', ls, ts, s9, hn', htl, hts, rfl⟩
      exact sw_retd (ed_tup (ea_cons (ed_tupC (es_own rfl ⟨rfl, ea_cons (ed_tupC (es_own rfl ⟨rfl, ea_nil ⟨smallr rfl, n', rfl, r n' ws ts (by omega) h2 h3 htl hts⟩⟩))⟩))))
end G

/-! ## part 21 -/
set_option Elab.async false
set_option linter.all false
set_option maxRecDepth 100000
set_option maxHeartbeats 2000000
namespace G
open PySem PySem.Spec PyProof.Rows L2
section
variable {Γ : List Sv} {te ta tb tc : TE} {tt tu : TT} {tas : TA} {K : PySem.W.Frag} {R : List Sv → PyData → Prop} {t u : TS} {g : TG} {gs : TGs}
  {Nx Bk Ct : List Sv → Prop} {Rt : List Sv → Sv → Prop} {i : Nat}
/-- a for loop whose items are known behind the iterable -/
theorem sw_forX {wi : TI} {tb : TS} (h : Iw wi Γ fun Γ1 ds => ∃ Iv : Nat → List Sv → Prop, Iv 0 Γ1 ∧ (∀ j d Γ2, ds[j]? = some d → Iv j Γ2 → Sg g d Γ2 fun Γ3 => Sw tb Γ3 (Iv (j + 1)) Rt Nx (Iv (j + 1))) ∧ ∀ Γ2, Iv ds.length Γ2 → Nx Γ2) : Sw (tFor wi g tb) Γ Nx Rt Bk Ct :=
  fun B0 H0 B σ H D S n r b c => h B0 H0 B σ H S _ fun Γ1 ds J B1 H1 ⟨Iv, h0, hs, hd⟩ S1 e1 gv => by
    refine ⟨fun j m σ' H' => m = ds.length - j ∧ j ≤ ds.length ∧ ∃ Γ2 B2, Iv j Γ2 ∧ Sl B0 H0 Γ2 B2 σ' H' ∧ Ex B1 B2, ⟨_, rfl, Nat.zero_le _, Γ1, B1, h0, S1, Ex.refl _⟩, ?_⟩
    rintro j m σ' H' ⟨rfl, hj, Γ2, B2, iv, S2, e2⟩
    obtain ⟨q1, q2⟩ := gv B2 H' j e2 S2.bh
    by_cases hlt : j < ds.length
    · obtain ⟨q3, q4⟩ := q1 _ (List.getElem?_eq_getElem hlt)
      refine .inr ⟨q3, fun σ'' H'' => ∃ Γ3 B3, Iv (j + 1) Γ3 ∧ Sl B0 H0 Γ3 B3 σ'' H'' ∧ Ex B1 B3, fun σ'' H'' w => ⟨_, by omega, rfl, hlt, w⟩, fun x H'' hy => ?_⟩
      obtain ⟨B3, g3, i3⟩ := q4 x H'' hy
      refine hs j _ Γ2 (List.getElem?_eq_getElem hlt) iv B0 H0 B3 σ' H'' x (S2.grow g3) i3 _ fun Γ4 B4 σ4 H4 h4 S4 e4 => ?_
      have e14 : Ex B1 B4 := (e2.trans g3.b).trans e4
      exact h4 B0 H0 B4 σ4 H4 _ S4 (fun Γ5 B5 σ5 H5 h5 S5 e5 => ⟨Γ5, B5, h5, S5, e14.trans e5⟩) (fun Γ5 s v B5 σ5 H5 h5 S5 e5 => r Γ5 s v B5 σ5 H5 h5 S5 ((e1.trans e14).trans e5))
        (fun Γ5 B5 σ5 H5 h5 S5 e5 => n Γ5 B5 σ5 H5 h5 S5 ((e1.trans e14).trans e5)) (fun Γ5 B5 σ5 H5 h5 S5 e5 => ⟨Γ5, B5, h5, S5, e14.trans e5⟩)
    · have e : j = ds.length := by omega
      subst e
      exact .inl ⟨q2 (Nat.le_refl _), n Γ2 B2 σ' H' (hd Γ2 iv) S2 (e1.trans e2)⟩
theorem sw_forLX {α : Type} {wi : TI} {tb : TS} (enc : α → PyData)
    (h : Iw wi Γ fun Γ1 ds => ∃ (xs : List α) (Iv : List α → List Sv → Prop), ds = xs.map enc ∧ Iv [] Γ1 ∧ (∀ pre x post Γ2, xs = pre ++ x :: post → Iv pre Γ2 → Sg g (enc x) Γ2 fun Γ3 => Sw tb Γ3 (Iv (pre ++ [x])) Rt Nx (Iv (pre ++ [x]))) ∧ ∀ Γ2, Iv xs Γ2 → Nx Γ2) : Sw (tFor wi g tb) Γ Nx Rt Bk Ct := by
  refine sw_forX ?_
  intro B0 H0 B σ H S Q k
  refine h B0 H0 B σ H S Q fun Γ1 ds J B1 H1 hd => k Γ1 ds J B1 H1 ?_
  obtain ⟨xs, Iv, rfl, h0, hs, he⟩ := hd
  refine ⟨fun j Γ => Iv (xs.take j) Γ, h0, fun j d Γ2 hd iv => ?_, fun Γ2 iv => he Γ2 ?_⟩
  · rw [List.getElem?_map] at hd
    cases q : xs[j]? with
    | none => rw [q] at hd; cases hd
    | some x =>
      rw [q] at hd
      cases hd
      have := hs (xs.take j) x (xs.drop (j + 1)) Γ2 (split_at q) iv
      show Sg g (enc x) Γ2 fun Γ3 => Sw tb Γ3 (Iv (xs.take (j + 1))) Rt Nx (Iv (xs.take (j + 1)))
      rw [take_snoc q]
      exact this
  · have : Iv (xs.take (xs.map enc).length) Γ2 := iv
    rw [List.length_map, List.take_length] at this
    exact this
theorem atI_some {α : Type} {xs : List α} {i : Int} (h0 : -(xs.length : Int) ≤ i) (h1 : i < xs.length) : ∃ x, x ∈ xs ∧ atI xs i = some x := by
  unfold atI ixN
  by_cases c : 0 ≤ i
  · rw [if_pos c, if_pos h1]
    refine ⟨xs[i.toNat]'(by omega), List.getElem_mem _, ?_⟩
    show xs[i.toNat]? = _
    exact List.getElem?_eq_getElem (by omega)
  · rw [if_neg c]
    by_cases c2 : -(xs.length : Int) ≤ i
    · rw [if_pos c2]
      refine ⟨xs[(i + xs.length).toNat]'(by omega), List.getElem_mem _, ?_⟩
      show xs[_]? = _
      rw [List.getElem?_eq_getElem]
    · omega
end

/-! ### chains -/
def SpOk (n : Nat) (p : Spot) : Prop := (∀ k ∈ p.bf, 0 ≤ k ∧ k < n) ∧ (∀ k ∈ p.bh, 0 ≤ k ∧ k < n) ∧ p.bf.length ≤ 2 ∧ p.bh.length ≤ 2 ∧ (p.mark = 0 ∨ p.mark = 1)
def nmAt (ts : List Trn) (k : Nat) : Str := (ts[k]?.map (·.name)).getD Str.empty
def owns (ts : List Trn) (y : Str) : List Nat := (List.range ts.length).filter fun k => decide (nmAt ts k = y)
theorem owns_lt {ts : List Trn} {y : Str} {k : Nat} (h : k ∈ owns ts y) : k < ts.length := List.mem_range.mp (List.mem_filter.mp h).1
theorem owns_all {ts : List Trn} {ys : List Str} (hn : ys.Nodup) (hm : ∀ y, y ∈ ys ↔ y ∈ ts.map (·.name)) : (ys.flatMap (owns ts)).length = ts.length := by
  have h1 : (ys.flatMap (owns ts)).Nodup := by
    rw [List.Nodup, List.pairwise_flatMap]
    refine ⟨fun y hy => ?_, ?_⟩
    · exact List.Pairwise.filter _ List.nodup_range
    · refine hn.imp fun {a b} hab x hx z hz e => ?_
      subst e
      have h1 := of_decide_eq_true (List.mem_filter.mp hx).2
      have h2 := of_decide_eq_true (List.mem_filter.mp hz).2
      exact hab (h1.symm.trans h2)
  have a := nodup_le (m := List.range ts.length) h1 fun k hk => by
    obtain ⟨y, _, hk⟩ := List.mem_flatMap.mp hk
    exact (List.mem_filter.mp hk).1
  have b := nodup_le (l := List.range ts.length) (m := ys.flatMap (owns ts)) List.nodup_range fun k hk => by
    have hk' := List.mem_range.mp hk
    refine List.mem_flatMap.mpr ⟨nmAt ts k, (hm _).mpr ?_, List.mem_filter.mpr ⟨hk, by simp⟩⟩
    unfold nmAt
    rw [List.getElem?_eq_getElem hk']
    exact List.mem_map.mpr ⟨_, List.getElem_mem hk', rfl⟩
  rw [List.length_range] at a b
  omega
def S_law_chains (ds : List PyData) (R : Sv → Prop) : Prop := ∃ ts : List Trn, ts.length ≤ 20 ∧ ds = [.tuple (ts.map Trn.D)] ∧ ∀ sp : List Spot, sp.length = ts.length → (∀ p ∈ sp, SpOk ts.length p) → R (.o (Ol (sp.map Spot.D)))
theorem w_law_chains {P : Program} {w : World} {K : PySem.W.Frag} (ds : List PyData) (R : Sv → Prop) (hl : ds.length = 1) (h : S_law_chains ds R) :
    Sw (t_law_chains P w K) (ds.map Sv.d ++ List.replicate (N_law_chains.length - 1) .no) (fun _ => R (.d .none)) (fun _ s => R s) (fun _ => False) (fun _ => False) := by
  obtain ⟨ts, hts, rfl, r⟩ := h
  unfold t_law_chains
  show Sw _ [.d (.tuple (ts.map Trn.D)), .no, .no, .no, .no, .no, .no] _ _ _ _
  refine sw_seq (sw_setO (ew_lst (ea_nil ⟨smallr rfl, _, rfl, lt_r rfl, ?_⟩)))
  refine sw_cut (fun Γ => ∃ (sp : List Spot) (s2 s3 s4 : Sv), sp.length = ts.length ∧ (∀ p ∈ sp, SpOk ts.length p) ∧ Γ = [.d (.tuple (ts.map Trn.D)), .o (Ol (sp.map Spot.D)), s2, s3, s4, .no, .no]) (sw_forLX PyData.str ?_) ?_
  · refine iw_list (ed_new (ew_sortsetS (ed_new (ew_lc1 ts Trn.D (fun t => .str t.name) mon_name tch1 (iw_tup (ed_var rfl ⟨_, rfl, rfl, rfl, small (m := 20) hts⟩)) (fun t ht => sg_name (lt_r rfl) (ed_ixTc (ed_var rfl ⟨_, _, rfl, rfl, rfl, rfl⟩))) ⟨_, rfl, ts.map (·.name), by rw [List.map_map]; rfl, by rw [List.length_map]; omega, fun ys hn hm => ⟨_, rfl, _, rfl, ys, fun pre Γ => ∃ (sp : List Spot) (s2 s3 s4 : Sv), sp.length = (pre.flatMap (owns ts)).length ∧ (∀ p ∈ sp, SpOk ts.length p) ∧ Γ = [.d (.tuple (ts.map Trn.D)), .o (Ol (sp.map Spot.D)), s2, s3, s4, .no, .no], rfl, ⟨[], .no, .no, .no, rfl, by simp, rfl⟩, fun pre y post Γ2 e iv => ?_, fun Γ2 iv => ?_⟩⟩))))
    · obtain ⟨sp, s2, s3, s4, h1, h2, rfl⟩ := iv
      have hall := owns_all hn hm
      have hle : (pre.flatMap (owns ts)).length + (owns ts y).length ≤ 20 := by
        rw [e, List.flatMap_append, List.flatMap_cons, List.length_append, List.length_append] at hall
        omega
      refine sg_name (lt_r rfl) (sw_seq (sw_set (ed_new (ew_lcM (List.range ts.length) (fun j => .int (j : Int)) (fun k => if decide (nmAt ts k = y) = true then some (.int (k : Int)) else none) mon_name tch1 ?_ (fun k hk => ?_) ⟨_, rfl, lt_r rfl, ?_⟩))))
      · exact iw_rng (ea_cons (ed_len (es_tup (ed_var rfl ⟨_, rfl, ea_nil ⟨ts.length, by simp, by omega, rfl, rfl, small (m := 20) (by simp; omega)⟩⟩))))
      · have hk' := List.mem_range.mp hk
        have hg : ts[k]? = some ts[k] := List.getElem?_eq_getElem hk'
        have hnm : nmAt ts k = ts[k].name := by unfold nmAt; rw [hg]; rfl
        refine sg_name (lt_r rfl) (et_test (ed_eq (ed_ixTc (ed_ixTv rfl (ed_var rfl ⟨rfl, _, ts[k].D, rfl, atI_ofNat (by rw [List.getElem?_map, hg]; rfl), _, _, rfl, rfl, ed_var rfl ⟨_, .str _ _, _, rfl, fun hb => ed_var rfl ⟨rfl, ?_⟩, fun hb => ⟨rfl, ?_⟩⟩⟩)))))
        · rw [hnm, hb]; rfl
        · rw [hnm, hb]; rfl
      · have eo : (List.range ts.length).filterMap (fun k => if decide (nmAt ts k = y) = true then some (PyData.int (k : Int)) else none) = ((owns ts y).map fun (k : Nat) => (k : Int)).map PyData.int := by
          unfold owns
          generalize List.range ts.length = l
          induction l with
          | nil => rfl
          | cons x l ih =>
            rw [List.filterMap_cons, List.filter_cons]
            by_cases c : nmAt ts x = y
            · simp only [c, decide_true, if_true, List.map_cons]
              rw [ih]
            · have c' : decide (nmAt ts x = y) = false := decide_eq_false c
              simp only [c', Bool.false_eq_true, if_false]
              exact ih
        rw [eo]
        refine sw_forL (List.range (owns ts y).length) (fun j => .int (j : Int)) (fun q Γ => ∃ (sp' : List Spot) (s4 : Sv), sp'.length = sp.length + q.length ∧ (∀ p ∈ sp', SpOk ts.length p) ∧ Γ = [.d (.tuple (ts.map Trn.D)), .o (Ol (sp'.map Spot.D)), .d (.str y), .d (.list (((owns ts y).map fun (k : Nat) => (k : Int)).map PyData.int)), s4, .no, .no]) ?_
        refine iw_rng (ea_cons (ed_len (es_list (ed_var rfl ⟨_, rfl, ea_nil ⟨(owns ts y).length, by simp, by omega, rfl, ⟨sp, s4, by simp, h2, rfl⟩, fun q j q2 Γ3 e3 iv => ?_, fun Γ3 iv => ?_⟩⟩))))
        · obtain ⟨sp', s4, g1, g2, rfl⟩ := iv
          have hj : j < (owns ts y).length := List.mem_range.mp (by rw [e3]; simp)
          have hq : q.length < (owns ts y).length := by
            have := congrArg List.length e3
            simp at this
            omega
          obtain ⟨a, ha, ha2⟩ := atI_some (xs := (owns ts y).map fun (k : Nat) => (k : Int)) (i := (j : Int) - 1) (by simp; omega) (by simp; omega)
          obtain ⟨b, hb, hb2⟩ := atI_some (xs := (owns ts y).map fun (k : Nat) => (k : Int)) (i := (j : Int)) (by simp; try omega) (by simp; try omega)
          obtain ⟨a', ha', rfl⟩ := List.mem_map.mp ha
          obtain ⟨b', hb', rfl⟩ := List.mem_map.mp hb
          have hal := owns_lt ha'
          have hbl := owns_lt hb'
          refine sg_name (lt_r rfl) (sw_app ⟨_, _, rfl⟩ (ed_tup (ea_cons (ed_tup (ea_cons (ed_ixL (ed_var rfl ⟨_, rfl, ed_I0 (ed_var rfl ⟨_, rfl, ed_int ⟨_, rfl, _, _, rfl, atI_map PyData.int ha2, ea_nil ⟨smallr rfl, ea_cons (ed_tup (ea_cons (ed_ixL (ed_var rfl ⟨_, rfl, ed_var rfl ⟨_, _, rfl, atI_map PyData.int hb2, ea_nil ⟨smallr rfl, ea_cons (ed_intB (ea_cons (ed_eq (ed_var rfl (ed_int ⟨_, .int _ _, ea_nil ⟨_, rfl, ea_nil ⟨smallr rfl, _, _, rfl, ?_, ?_⟩⟩⟩)))))⟩⟩⟩))))⟩⟩⟩)⟩)))))))
          · rw [List.length_map, sizeLine_eq]; omega
          · refine ⟨sp' ++ [⟨[(a' : Int)], [(b' : Int)], if decide ((j : Int) = 0) = true then 1 else 0⟩], .d (.int (j : Int)), by simp only [List.length_append, List.length_singleton]; omega, fun p hp => ?_, by rw [List.map_append]; rfl⟩
            rcases List.mem_append.mp hp with hp | hp
            · exact g2 p hp
            · have : p = ⟨[(a' : Int)], [(b' : Int)], if decide ((j : Int) = 0) = true then 1 else 0⟩ := by simpa using hp
              subst this
              refine ⟨fun k hk => ?_, fun k hk => ?_, by simp, by simp, ?_⟩
              · have : k = a' := by simpa using hk
                omega
              · have : k = b' := by simpa using hk
                omega
              · dsimp only
                split
                · exact .inr rfl
                · exact .inl rfl
        · obtain ⟨sp', s4, g1, g2, rfl⟩ := iv
          refine ⟨sp', .d (.str y), .d (.list (((owns ts y).map fun (k : Nat) => (k : Int)).map PyData.int)), s4, ?_, g2, rfl⟩
          rw [g1, h1, List.length_range, List.flatMap_append, List.flatMap_singleton, List.length_append]
    · obtain ⟨sp, s2, s3, s4, h1, h2, rfl⟩ := iv
      exact ⟨sp, s2, s3, s4, h1.trans (owns_all hn hm), h2, rfl⟩
  · rintro Γ1 ⟨sp, s2, s3, s4, h1, h2, rfl⟩
    exact sw_ret (ew_own rfl (r sp h1 h2))
end G

/-! ## part 22 -/
set_option Elab.async false
set_option linter.all false
set_option maxRecDepth 100000
set_option maxHeartbeats 2000000
namespace G
open PySem PySem.Spec PyProof.Rows L2
/-! ### joined -/
theorem nat_min (i j : Nat) : ∃ k : Nat, (if (j : Int) < (i : Int) then (j : Int) else (i : Int)) = (k : Int) ∧ (k = i ∨ k = j) := by
  split
  · exact ⟨j, rfl, .inr rfl⟩
  · exact ⟨i, rfl, .inl rfl⟩
theorem nat_max (i j : Nat) : ∃ k : Nat, (if (j : Int) > (i : Int) then (j : Int) else (i : Int)) = (k : Int) ∧ (k = i ∨ k = j) := by
  split
  · exact ⟨j, rfl, .inr rfl⟩
  · exact ⟨i, rfl, .inl rfl⟩
theorem spOk_pair {n a b : Nat} {m : Int} (ha : a < n) (hb : b < n) (hm : m = 0 ∨ m = 1) : SpOk n ⟨[(a : Int)], [(b : Int)], m⟩ := by
  refine ⟨fun k hk => ?_, fun k hk => ?_, by simp, by simp, hm⟩
  · have : k = a := by simpa using hk
    omega
  · have : k = b := by simpa using hk
    omega
def S_law_joined (n : Nat) (ds : List PyData) (R : Nat → Sv → Prop) : Prop := n ≤ 70000 ∧ ∃ (ts : List Trn) (k : Nat), 1 ≤ ts.length ∧ ts.length ≤ 20 ∧ k ≤ 8 ∧ ds = [.tuple (ts.map Trn.D), .int k] ∧
  ∀ (m : Nat) (sp : List Spot), m ≤ n + 20 → sp.length ≤ 2 * k → (∀ p ∈ sp, SpOk ts.length p) → R m (.o (Ol (sp.map Spot.D)))
theorem w_law_joined {K : PySem.W.Frag} (p : Addr) (n : Nat) (ds : List PyData) (R : Nat → Sv → Prop) (hl : ds.length = 2) (h : S_law_joined n ds R) :
    Sw (t_law_joined K (SpP 1 S_law_draw)) (.o (Op p n) :: (ds.map Sv.d ++ List.replicate (N_law_joined.length - 3) .no)) (fun Γ' => ∃ m', Γ'[0]? = some (.o (Op p m')) ∧ R m' (.d .none)) (fun Γ' s => ∃ m', Γ'[0]? = some (.o (Op p m')) ∧ R m' s) (fun _ => False) (fun _ => False) := by
  obtain ⟨hn, ts, k, ht1, ht2, hk, rfl, r⟩ := h
  unfold t_law_joined
  show Sw _ [.o (Op p n), .d (.tuple (ts.map Trn.D)), .d (.int k), .no, .no, .no, .no] _ _ _ _
  refine sw_seq (sw_setO (ew_lst (ea_nil ⟨smallr rfl, _, rfl, lt_r rfl, ?_⟩)))
  refine sw_cut (fun Γ => ∃ (n' : Nat) (sp : List Spot) (s4 s5 s6 : Sv), n' ≤ n + 16 ∧ sp.length ≤ 2 * k ∧ (∀ p ∈ sp, SpOk ts.length p) ∧ Γ = [.o (Op p n'), .d (.tuple (ts.map Trn.D)), .d (.int k), .o (Ol (sp.map Spot.D)), s4, s5, s6])
    (sw_forL (List.range k) (fun j => .int (j : Int)) (fun q Γ => ∃ (n' : Nat) (sp : List Spot) (s4 s5 s6 : Sv), n' ≤ n + 2 * q.length ∧ sp.length ≤ 2 * q.length ∧ (∀ p ∈ sp, SpOk ts.length p) ∧ Γ = [.o (Op p n'), .d (.tuple (ts.map Trn.D)), .d (.int k), .o (Ol (sp.map Spot.D)), s4, s5, s6]) ?_) ?_
  · refine iw_rng (ea_cons (ed_var rfl (ea_nil ⟨k, rfl, by omega, rfl, ⟨n, [], .no, .no, .no, by simp, by simp, by simp, rfl⟩, fun q x q2 Γ2 e iv => ?_, fun Γ2 iv => ?_⟩)))
    · obtain ⟨n', sp, s4, s5, s6, h1, h2, h3, rfl⟩ := iv
      have hq : q.length < k := by
        have := congrArg List.length e
        simp at this
        omega
      refine sg_name (lt_r rfl) (sw_seq (sw_set (ed_ew (ew_callP rfl (ea_cons (ed_len (es_tup (ed_var rfl ⟨_, rfl, ea_nil ⟨n', rfl, rfl, by omega, ts.length, ht1, by omega, by simp, fun j hj => ⟨_, rfl, lt_r rfl, ?_⟩⟩⟩))))))))
      refine sw_seq (sw_set (ed_ew (ew_callP rfl (ea_cons (ed_len (es_tup (ed_var rfl ⟨_, rfl, ea_nil ⟨n' + 1, rfl, rfl, by omega, ts.length, ht1, by omega, by simp, fun i hi => ⟨_, rfl, lt_r rfl, ?_⟩⟩⟩)))))))
      have hgi : ts[i]? = some ts[i] := List.getElem?_eq_getElem hi
      have hgj : ts[j]? = some ts[j] := List.getElem?_eq_getElem hj
      refine sw_if (et_test (ed_ne (ed_ixTc (ed_ixTv rfl (ed_var rfl ⟨rfl, _, ts[i].D, rfl, atI_ofNat (by rw [List.getElem?_map, hgi]; rfl), _, _, rfl, rfl, ed_ixTc (ed_ixTv rfl (ed_var rfl ⟨rfl, _, ts[j].D, rfl, atI_ofNat (by rw [List.getElem?_map, hgj]; rfl), _, _, rfl, rfl, _, .str _ _, _, rfl, fun hb => ?_, fun hb => ?_⟩))⟩)))))
      · obtain ⟨a, ea, ha⟩ := nat_min i j
        obtain ⟨b, eb, hb2⟩ := nat_max i j
        have hal : a < ts.length := by rcases ha with rfl | rfl <;> assumption
        have hbl : b < ts.length := by rcases hb2 with rfl | rfl <;> assumption
        refine sw_ext ⟨_, _, rfl⟩ (ed_new (ew_lst (ea_cons (ed_tup (ea_cons (ed_tup (ea_cons (ed_min (ea_cons (ed_var rfl (ea_cons (ed_var rfl (ea_nil ⟨_, _, rfl, ea_nil ⟨smallr rfl, ?_⟩⟩)))))))))))))
        refine ea_cons (ed_tup (ea_cons (ed_max (ea_cons (ed_var rfl (ea_cons (ed_var rfl (ea_nil ⟨_, _, rfl, ea_nil ⟨smallr rfl, ea_cons (ed_int (ea_nil ⟨smallr rfl, ?_⟩))⟩⟩))))))))
        refine ea_cons (ed_tup (ea_cons (ed_tup (ea_cons (ed_max (ea_cons (ed_var rfl (ea_cons (ed_var rfl (ea_nil ⟨_, _, rfl, ea_nil ⟨smallr rfl, ?_⟩⟩))))))))))
        refine ea_cons (ed_tup (ea_cons (ed_min (ea_cons (ed_var rfl (ea_cons (ed_var rfl (ea_nil ⟨_, _, rfl, ea_nil ⟨smallr rfl, ea_cons (ed_int (ea_nil ⟨smallr rfl, ea_nil ⟨smallr rfl, _, rfl, _, _, _, rfl, rfl, ?_, ?_⟩⟩))⟩⟩))))))))
        · rw [List.length_map, sizeLine_eq]; simp; omega
        · rw [ea, eb]
          refine ⟨n' + 2, sp ++ [⟨[(a : Int)], [(b : Int)], 0⟩, ⟨[(b : Int)], [(a : Int)], 1⟩], .d (.int x), .d (.int j), .d (.int i), by simp; omega, by simp; omega, fun y hy => ?_, by rw [List.map_append]; rfl⟩
          rcases List.mem_append.mp hy with hy | hy
          · exact h3 y hy
          · rcases List.mem_cons.mp hy with rfl | hy
            · exact spOk_pair hal hbl (.inl rfl)
            · have : y = ⟨[(b : Int)], [(a : Int)], 1⟩ := by simpa using hy
              subst this
              exact spOk_pair hbl hal (.inr rfl)
      · exact sw_next ⟨n' + 2, sp, .d (.int x), .d (.int j), .d (.int i), by simp; omega, by simp; omega, h3, rfl⟩
    · obtain ⟨n', sp, s4, s5, s6, h1, h2, h3, rfl⟩ := iv
      rw [List.length_range] at h1 h2
      exact ⟨n', sp, s4, s5, s6, by omega, h2, h3, rfl⟩
  · rintro Γ1 ⟨n', sp, s4, s5, s6, h1, h2, h3, rfl⟩
    exact sw_ret (ew_own rfl ⟨n', rfl, r n' sp (by omega) h2 h3⟩)

/-! ### the sheets that the law makes -/
structure Gs (S : Sheet) : Prop where
  ok : Ok S
  sz : S.spots.length + S.wires.length ≤ 20
  tn : S.turns.length ≤ 14
  bl : ∀ p ∈ S.spots, p.bf.length ≤ 2 ∧ p.bh.length ≤ 2
  s2 : 2 ≤ S.spots.length
  t1 : 1 ≤ S.turns.length
  w1 : 1 ≤ S.wires.length
theorem Gs.mk' {ws : List Wire} {ts : List Trn} {sp : List Spot} {ns : List Str} (hn : ∀ x ∈ ns, x ∈ ws.map (·.name)) (hw : ∀ x ∈ ws, Wok x) (ht : ∀ t ∈ ts, TOk ns t) (hs : ∀ p ∈ sp, SpOk ts.length p) (hz : sp.length + ws.length ≤ 20) (hz2 : ts.length ≤ 14) (h2 : 2 ≤ sp.length) (h1 : 1 ≤ ts.length) (hw1 : 1 ≤ ws.length) : Gs ⟨ws, ts, sp⟩ := by
  refine ⟨⟨fun p hp => (hs p hp).1, fun p hp => (hs p hp).2.1, fun p hp => ?_, fun p hp => ?_, fun t hx => ?_, hw, fun t hx => (ht t hx).2, fun p hp => (hs p hp).2.2.2.2, ?_, ?_, ?_⟩, hz, hz2, fun p hp => ⟨(hs p hp).2.2.1, (hs p hp).2.2.2.1⟩, h2, h1, hw1⟩
  · have := (hs p hp).2.2.1; omega
  · have := (hs p hp).2.2.2.1; omega
  · obtain ⟨x, hx1, hx2⟩ := List.mem_map.mp (hn _ (ht t hx).1)
    exact ⟨x, hx1, hx2⟩
  · show ts.length ≤ 20; omega
  · show sp.length + ws.length ≤ 22; omega
  · show 1 ≤ sp.length; omega

/-! ### of_word -/
def menu (r : List Nat) (m : Nat) : PyData := .tuple [.list (r.map fun (x : Nat) => PyData.int (x : Int)), .int (m : Int)]
theorem rep_ints (n : Nat) : (List.replicate n [PyData.int 1]).flatten = (List.replicate n 1).map fun (x : Nat) => PyData.int (x : Int) := by
  induction n with
  | zero => rfl
  | succ n ih => rw [List.replicate_succ, List.flatten_cons, ih, List.replicate_succ]; rfl
def S_law_of_word (n : Nat) (ds : List PyData) (R : Nat → Sv → Prop) : Prop := n ≤ 40000 ∧ ∃ way : Nat, (way = 0 ∨ way = 1 ∨ way = 2 ∨ way = 4) ∧ ds = [.int way] ∧ ∀ (m : Nat) (S : Sheet), m ≤ n + 300 → Gs S → R m (.d S.D)
theorem w_law_of_word {K : PySem.W.Frag} (p : Addr) (n : Nat) (ds : List PyData) (R : Nat → Sv → Prop) (hl : ds.length = 1) (h : S_law_of_word n ds R) :
    Sw (t_law_of_word K (SpP 1 S_law_names) (SpP 2 S_law_word) (SpD 1 S_law_chains) (SpP 2 S_law_joined)) (.o (Op p n) :: (ds.map Sv.d ++ List.replicate (N_law_of_word.length - 2) .no)) (fun Γ' => ∃ m', Γ'[0]? = some (.o (Op p m')) ∧ R m' (.d .none)) (fun Γ' s => ∃ m', Γ'[0]? = some (.o (Op p m')) ∧ R m' s) (fun _ => False) (fun _ => False) := by
  obtain ⟨hn, way, hway, rfl, r⟩ := h
  unfold t_law_of_word
  show Sw _ [.o (Op p n), .d (.int way), .no, .no, .no, .no, .no] _ _ _ _
  have entry : ∀ {Γ : List Sv} {R : List Sv → PyData → Prop} (x : Int) (m : Int), R Γ (.tuple [.list [.int x], .int m]) → Ed (tTup (tCons (tLst (tCons (tC (.int x)) tNil)) (tCons (tC (.int m)) tNil))) Γ R := fun x m q => ed_tup (ea_cons (ed_new (ew_lst (ea_cons (ed_int (ea_nil ⟨smallr rfl, _, rfl, ea_cons (ed_int (ea_nil ⟨smallr rfl, q⟩))⟩))))))
  have entry2 : ∀ {Γ : List Sv} {R : List Sv → PyData → Prop} (x y : Int) (m : Int), R Γ (.tuple [.list [.int x, .int y], .int m]) → Ed (tTup (tCons (tLst (tCons (tC (.int x)) (tCons (tC (.int y)) tNil))) (tCons (tC (.int m)) tNil))) Γ R := fun x y m q => ed_tup (ea_cons (ed_new (ew_lst (ea_cons (ed_int (ea_cons (ed_int (ea_nil ⟨smallr rfl, _, rfl, ea_cons (ed_int (ea_nil ⟨smallr rfl, q⟩))⟩))))))))
  have entry3 : ∀ {Γ : List Sv} {R : List Sv → PyData → Prop} (x y z : Int) (m : Int), R Γ (.tuple [.list [.int x, .int y, .int z], .int m]) → Ed (tTup (tCons (tLst (tCons (tC (.int x)) (tCons (tC (.int y)) (tCons (tC (.int z)) tNil)))) (tCons (tC (.int m)) tNil))) Γ R := fun x y z m q => ed_tup (ea_cons (ed_new (ew_lst (ea_cons (ed_int (ea_cons (ed_int (ea_cons (ed_int (ea_nil ⟨smallr rfl, _, rfl, ea_cons (ed_int (ea_nil ⟨smallr rfl, q⟩))⟩))))))))))
  have entry4 : ∀ {Γ : List Sv} {R : List Sv → PyData → Prop} (x y z v : Int) (m : Int), R Γ (.tuple [.list [.int x, .int y, .int z, .int v], .int m]) → Ed (tTup (tCons (tLst (tCons (tC (.int x)) (tCons (tC (.int y)) (tCons (tC (.int z)) (tCons (tC (.int v)) tNil))))) (tCons (tC (.int m)) tNil))) Γ R := fun x y z v m q => ed_tup (ea_cons (ed_new (ew_lst (ea_cons (ed_int (ea_cons (ed_int (ea_cons (ed_int (ea_cons (ed_int (ea_nil ⟨smallr rfl, _, rfl, ea_cons (ed_int (ea_nil ⟨smallr rfl, q⟩))⟩))))))))))))
  have entryR : ∀ {Γ : List Sv} {R : List Sv → PyData → Prop} (k : Nat) (m : Int), k ≤ 100 → R Γ (.tuple [.list (List.replicate k [PyData.int 1]).flatten, .int m]) → Ed (tTup (tCons (tOp rRep (tLst (tCons (tC (.int 1)) tNil)) (tC (.int (k : Int)))) (tCons (tC (.int m)) tNil))) Γ R := fun k m hk q => by
    have h60 : (2 : Nat) ^ 60 = 1152921504606846976 := by decide
    exact ed_tup (ea_cons (ed_new (ew_rep (ed_new (ew_lst (ea_cons (ed_int (ea_nil ⟨smallr rfl, _, rfl, _, rfl, ed_int ⟨k, rfl, small (m := 100) (by simp; exact hk), by omega, _, rfl, ea_cons (ed_int (ea_nil ⟨smallr rfl, q⟩))⟩⟩))))))))
  refine sw_seq (sw_set (ed_new (ew_lst (ea_cons (entry 3 0 (ea_cons (entry2 2 2 5 (ea_cons (entry2 1 1 2 (ea_cons (entry3 2 1 1 4 (ea_cons (entry3 1 1 1 3 (ea_cons (entry4 1 1 1 1 2 (ea_cons (entryR 5 1 (by decide) (ea_nil ⟨smallr rfl, _, rfl, lt_r rfl, ?_⟩))))))))))))))))))
  have hpick : ∃ (rs : List Nat) (mm : Nat), atI ([PyData.tuple [.list [.int 3], .int 0], .tuple [.list [.int 2, .int 2], .int 5], .tuple [.list [.int 1, .int 1], .int 2], .tuple [.list [.int 2, .int 1, .int 1], .int 4], .tuple [.list [.int 1, .int 1, .int 1], .int 3], .tuple [.list [.int 1, .int 1, .int 1, .int 1], .int 2], .tuple [.list (List.replicate 5 [PyData.int 1]).flatten, .int 1]] ++ [.tuple [.list (List.replicate 6 [PyData.int 1]).flatten, .int 0]]) (way : Int) = some (menu rs mm) ∧ rs.length ≤ 6 ∧ 1 ≤ rs.length ∧ rs.sum ≤ 4 ∧ 1 ≤ rs.sum ∧ (∀ x ∈ rs, 1 ≤ x) ∧ mm ≤ 5 ∧ 2 ≤ 2 * rs.sum ∧ 2 * rs.sum + 2 * mm + rs.length ≤ 20 := by
    rcases hway with rfl | rfl | rfl | rfl
    · exact ⟨[3], 0, atI_ofNat rfl, by decide, by decide, by decide, by decide, by decide, by decide, by decide, by decide⟩
    · exact ⟨[2, 2], 5, atI_ofNat rfl, by decide, by decide, by decide, by decide, by decide, by decide, by decide, by decide⟩
    · exact ⟨[1, 1], 2, atI_ofNat rfl, by decide, by decide, by decide, by decide, by decide, by decide, by decide, by decide⟩
    · exact ⟨[1, 1, 1], 3, atI_ofNat rfl, by decide, by decide, by decide, by decide, by decide, by decide, by decide, by decide⟩
  obtain ⟨rs, mm, hp, h1, h2, h3, h4, h5, h6, h7, h8⟩ := hpick
  refine sw_seq (sw_asg (ed_ixL (ed_new (ew_cat (ed_var rfl ⟨_, rfl, ed_new (ew_lst (ea_cons (entryR 6 0 (by decide) (ea_nil ⟨smallr rfl, _, rfl, _, rfl, smallr rfl, _, rfl, _, rfl, ed_var rfl ⟨_, _, rfl, hp, ?_⟩⟩))))⟩)))))
  refine sg_tup ⟨_, rfl, rfl, sgs_cons (sg_name (lt_r rfl) (sgs_cons (sg_name (lt_r rfl) (sgs_nil ?_))))⟩
  refine sw_seq (sw_asg (ed_ew (ew_callP rfl (ea_cons (ed_ew (ew_callP rfl (ea_cons (ed_len (es_list (ed_var rfl ⟨_, rfl, ea_nil ⟨n, rfl, rfl, by omega, rs.length, by omega, by simp, fun m1 ns hm1 hns hok => ⟨_, ⟨_, rfl, rfl⟩, ?_⟩⟩⟩))))))))))
  refine ea_cons (ed_var rfl (ea_nil ⟨m1, rfl, rfl, by omega, ns, rs, hns, by omega, by omega, h5, hok, rfl, fun m2 ws ts hm2 hws hwok htl htok => ⟨_, rfl, ?_⟩⟩))
  have hwl : ws.length = rs.length := by rw [← hns, ← hws, List.length_map]
  refine sg_tup ⟨_, rfl, rfl, sgs_cons (sg_name (lt_r rfl) (sgs_cons (sg_name (lt_r rfl) (sgs_nil ?_))))⟩
  refine sw_retd (ed_tup (ea_cons (ed_var rfl (ea_cons (ed_var rfl (ea_cons (ed_tupC (es_new (ew_cat (ed_ew (ew_call (ea_cons (ed_var rfl (ea_nil ⟨rfl, ts, by omega, rfl, fun sp1 hs1 hs2 => ⟨_, ⟨_, rfl, rfl⟩, _, rfl, ?_⟩⟩))))))))))))))
  refine ed_ew (ew_callP rfl (ea_cons (ed_var rfl (ea_cons (ed_var rfl (ea_nil ⟨m2, rfl, rfl, by omega, ts, mm, by omega, by omega, by omega, rfl, fun m3 sp2 hm3 hs3 hs4 => ⟨_, ⟨_, rfl, rfl⟩, _, rfl, ?_, _, rfl, rfl, ea_nil ⟨smallr rfl, m3, rfl, ?_⟩⟩⟩))))))
  · rw [List.length_map, List.length_map, sizeLine_eq]; omega
  · rw [← List.map_append]
    refine r m3 ⟨ws, ts, sp1 ++ sp2⟩ (by omega) (Gs.mk' (ns := ns) (fun x hx => by rw [hws]; exact hx) hwok htok (fun p hp => ?_) ?_ (by omega) ?_ (by omega) (by omega))
    · rcases List.mem_append.mp hp with hp | hp
      · exact hs2 p hp
      · exact hs4 p hp
    · rw [List.length_append]; omega
    · rw [List.length_append]; omega
end G

/-! ## part 23 -/
set_option Elab.async false
set_option linter.all false
set_option maxRecDepth 100000
set_option maxHeartbeats 2000000
namespace G
open PySem PySem.Spec PyProof.Rows L2
/-! ### choice -/
theorem pick3 {r : Nat} (h : r < 3) : ∃ a b c : Nat, atI [PyData.list [.int 0, .int 1, .int 2], .list [.int 1, .int 2, .int 0], .list [.int 2, .int 0, .int 1]] (r : Int) = some (.list ([a, b, c].map fun (k : Nat) => PyData.int (k : Int))) ∧ a < 3 ∧ b < 3 ∧ c < 3 ∧ ∀ k : Nat, k < 3 → k = a ∨ k = b ∨ k = c := by
  match r, h with
  | 0, _ => exact ⟨0, 1, 2, atI_ofNat rfl, by omega, by omega, by omega, by omega⟩
  | 1, _ => exact ⟨1, 2, 0, atI_ofNat rfl, by omega, by omega, by omega, by omega⟩
  | 2, _ => exact ⟨2, 0, 1, atI_ofNat rfl, by omega, by omega, by omega, by omega⟩
def S_law_choice (n : Nat) (ds : List PyData) (R : Nat → Sv → Prop) : Prop := n ≤ 60000 ∧ ∃ ns : List Str, ns.length = 3 ∧ ds = [.list (ns.map PyData.str)] ∧
  ∀ (m : Nat) (S : Sheet), m ≤ n + 20 → Gs S → S.turns.length = 8 → S.spots.length = 7 → S.wires.length = 3 → R m (.d S.D)
theorem w_law_choice {K : PySem.W.Frag} (p : Addr) (n : Nat) (ds : List PyData) (R : Nat → Sv → Prop) (hl : ds.length = 1) (h : S_law_choice n ds R) :
    Sw (t_law_choice K (SpP 1 S_law_draw)) (.o (Op p n) :: (ds.map Sv.d ++ List.replicate (N_law_choice.length - 2) .no)) (fun Γ' => ∃ m', Γ'[0]? = some (.o (Op p m')) ∧ R m' (.d .none)) (fun Γ' s => ∃ m', Γ'[0]? = some (.o (Op p m')) ∧ R m' s) (fun _ => False) (fun _ => False) := by
  obtain ⟨hn, ns, hns, rfl, r⟩ := h
  unfold t_law_choice
  show Sw _ [.o (Op p n), .d (.list (ns.map PyData.str)), .no, .no, .no, .no, .no, .no, .no, .no, .no, .no, .no, .no, .no] _ _ _ _
  refine sw_seq (sw_set (ed_new (ew_lcL ns PyData.str (fun q Γ acc => ∃ (n' : Nat) (vs : List Int), n' ≤ n + q.length ∧ vs.length = q.length ∧ (∀ v ∈ vs, v = 0 ∨ v = 1) ∧ acc = vs.map PyData.int ∧ Γ = [.o (Op p n'), .d (.list (ns.map PyData.str)), .no, .no, .no, .no, .no, .no, .no, .no, .no, .no, .no, .no, .no]) mon_name tch1 ?_)))
  refine iw_list (ed_var rfl ⟨_, rfl, rfl, small (m := 3) (by omega), ⟨n, [], by simp, rfl, by simp, rfl, rfl⟩, fun q x q2 Γ2 acc e iv => ?_, fun Γ2 acc iv => ?_⟩)
  · obtain ⟨n', vs, h1, h2, h3, rfl, rfl⟩ := iv
    have hq : q.length < 3 := by
      have := congrArg List.length e
      rw [hns] at this
      simp at this
      omega
    refine sg_name (lt_r rfl) (et_yes ⟨fun _ => ?_, fun z => Bool.noConfusion z⟩)
    refine ed_ew (ew_callP rfl (ea_cons (ed_int (ea_nil ⟨n', rfl, rfl, by omega, 2, by decide, by decide, rfl, fun v hv => ⟨_, rfl, n' + 1, vs ++ [(v : Int)], by simp; omega, by simp [h2], fun y hy => ?_, by simp, rfl⟩⟩))))
    rcases List.mem_append.mp hy with hy | hy
    · exact h3 y hy
    · have : y = v := by simpa using hy
      omega
  · obtain ⟨n1, vs, hn1, hvl, hv01, rfl, rfl⟩ := iv
    rw [hns] at hn1 hvl
    refine ⟨_, rfl, lt_r rfl, ?_⟩
    refine sw_seq (sw_set (ed_ixL (ed_new (ew_lst (ea_cons (ed_new (ew_lst (ea_cons (ed_int (ea_cons (ed_int (ea_cons (ed_int (ea_nil ⟨smallr rfl, _, rfl, ?_⟩))))))))))))))
    refine ea_cons (ed_new (ew_lst (ea_cons (ed_int (ea_cons (ed_int (ea_cons (ed_int (ea_nil ⟨smallr rfl, _, rfl, ?_⟩)))))))))
    refine ea_cons (ed_new (ew_lst (ea_cons (ed_int (ea_cons (ed_int (ea_cons (ed_int (ea_nil ⟨smallr rfl, _, rfl, ea_nil ⟨smallr rfl, _, rfl, _, rfl, ?_⟩⟩)))))))))
    refine ed_ew (ew_callP rfl (ea_cons (ed_int (ea_nil ⟨n1, rfl, rfl, by omega, 3, by decide, by decide, rfl, fun q hq => ⟨_, rfl, ?_⟩⟩))))
    obtain ⟨a, b, c, habc, ha, hb, hc, hall⟩ := pick3 hq
    refine ⟨_, _, rfl, habc, lt_r rfl, ?_⟩
    have hg : ∀ k : Nat, k < 3 → ∃ (x : Str) (v : Int), ns[k]? = some x ∧ vs[k]? = some v ∧ x ∈ ns ∧ (v = 0 ∨ v = 1) := fun k hk => by
      have e1 : ns[k]? = some (ns[k]'(by omega)) := List.getElem?_eq_getElem (by omega)
      have e2 : vs[k]? = some (vs[k]'(by omega)) := List.getElem?_eq_getElem (by omega)
      exact ⟨_, _, e1, e2, List.getElem_mem _, hv01 _ (List.getElem_mem _)⟩
    obtain ⟨xa, va, ga1, ga2, ga3, ga4⟩ := hg a ha
    obtain ⟨xb, vb, gb1, gb2, gb3, gb4⟩ := hg b hb
    obtain ⟨xc, vc, gc1, gc2, gc3, gc4⟩ := hg c hc
    have hin : ∀ x ∈ ns, x ∈ [xa, xb, xc] := fun x hx => by
      obtain ⟨k, hk⟩ := List.getElem?_of_mem hx
      have hk3 : k < 3 := by have := (List.getElem?_eq_some_iff.mp hk).1; omega
      rcases hall k hk3 with rfl | rfl | rfl
      · rw [ga1] at hk; cases hk; simp
      · rw [gb1] at hk; cases hk; simp
      · rw [gc1] at hk; cases hk; simp
    refine sw_seq (sw_asg (ed_new (ew_lc1 [a, b, c] (fun (k : Nat) => PyData.int (k : Int)) (fun k => .tuple [.str (ns[k]?.getD Str.empty), .int (vs[k]?.getD 0)]) mon_name tch1 (iw_list (ed_var rfl ⟨_, rfl, rfl, rfl, smallr rfl⟩)) (fun k hk => ?_) ⟨_, rfl, ?_⟩)))
    · have hk3 : k < 3 := by
        rcases List.mem_cons.mp hk with rfl | hk
        · exact ha
        · rcases List.mem_cons.mp hk with rfl | hk
          · exact hb
          · have : k = c := by simpa using hk
            omega
      obtain ⟨x, v, g1, g2, _, _⟩ := hg k hk3
      refine sg_name (lt_r rfl) (ed_tup (ea_cons (ed_ixL (ed_var rfl ⟨_, rfl, ed_var rfl ⟨_, .str x, rfl, atI_ofNat (by rw [List.getElem?_map, g1]; rfl), ea_cons (ed_ixL (ed_var rfl ⟨_, rfl, ed_var rfl ⟨_, .int v, rfl, atI_ofNat (by rw [List.getElem?_map, g2]; rfl), ea_nil ⟨smallr rfl, rfl, ?_⟩⟩⟩))⟩⟩))))
      rw [g1, g2]
      rfl
    · show Sg _ (PyData.list [.tuple [.str (ns[a]?.getD Str.empty), .int (vs[a]?.getD 0)], .tuple [.str (ns[b]?.getD Str.empty), .int (vs[b]?.getD 0)], .tuple [.str (ns[c]?.getD Str.empty), .int (vs[c]?.getD 0)]]) _ _
      rw [ga1, ga2, gb1, gb2, gc1, gc2]
      refine sg_unl ⟨_, rfl, rfl, sgs_cons (sg_name (lt_r rfl) (sgs_cons (sg_name (lt_r rfl) (sgs_cons (sg_name (lt_r rfl) (sgs_nil ?_))))))⟩
      refine sw_seq (sw_setO (ew_dictP (ed_new (ew_lst (ea_cons (ed_tup (ea_cons (ed_ixTc (ed_var rfl ⟨_, _, rfl, rfl, ea_cons (ed_str (ea_nil ⟨smallr rfl, ?_⟩))⟩)))))))))
      refine ea_cons (ed_tup (ea_cons (ed_ixTc (ed_var rfl ⟨_, _, rfl, rfl, ea_cons (ed_str (ea_nil ⟨smallr rfl, ?_⟩))⟩))))
      refine ea_cons (ed_tup (ea_cons (ed_ixTc (ed_var rfl ⟨_, _, rfl, rfl, ea_cons (ed_str (ea_nil ⟨smallr rfl, ea_nil ⟨smallr rfl, _, rfl, [(xa, "ask"), (xb, "ask"), (xc, "answer")], rfl, _, rfl, lt_r rfl, ?_⟩⟩))⟩))))
      refine sw_seq (sw_set (ed_new (ew_lst (ea_nil ⟨smallr rfl, _, rfl, lt_r rfl, ?_⟩))))
      refine sw_cut (fun Γ => ∃ (ts : List Trn) (s9 s10 : Sv), ts.length = 8 ∧ (∀ t ∈ ts, TOk ns t) ∧ Γ = [.o (Op p (n1 + 1)), .d (.list (ns.map PyData.str)), .d (.list (vs.map PyData.int)), .d (.list ([a, b, c].map fun (k : Nat) => PyData.int (k : Int))), .d (Trn.D ⟨xa, va⟩), .d (Trn.D ⟨xb, vb⟩), .d (Trn.D ⟨xc, vc⟩), .o (Osd [xa, xb, xc]), .d (.list (ts.map Trn.D)), s9, s10, .no, .no, .no, .no])
        (sw_forL [(⟨xa, va⟩ : Trn), ⟨xb, vb⟩] Trn.D (fun q Γ => ∃ (ts : List Trn) (s9 s10 : Sv), ts.length = 4 * q.length ∧ (∀ t ∈ ts, TOk ns t) ∧ Γ = [.o (Op p (n1 + 1)), .d (.list (ns.map PyData.str)), .d (.list (vs.map PyData.int)), .d (.list ([a, b, c].map fun (k : Nat) => PyData.int (k : Int))), .d (Trn.D ⟨xa, va⟩), .d (Trn.D ⟨xb, vb⟩), .d (Trn.D ⟨xc, vc⟩), .o (Osd [xa, xb, xc]), .d (.list (ts.map Trn.D)), s9, s10, .no, .no, .no, .no]) ?_) ?_
      · refine iw_tup (ed_tup (ea_cons (ed_var rfl (ea_cons (ed_var rfl (ea_nil ⟨smallr rfl, _, rfl, rfl, ⟨[], .no, .no, rfl, by simp, rfl⟩, fun q t q2 Γ3 e iv => ?_, fun Γ3 iv => ?_⟩))))))
        · obtain ⟨ts, s9, s10, h1, h2, rfl⟩ := iv
          have htm : t ∈ [(⟨xa, va⟩ : Trn), ⟨xb, vb⟩] := by rw [e]; simp
          have hto : TOk ns t := by
            rcases List.mem_cons.mp htm with rfl | htm
            · exact ⟨ga3, ga4⟩
            · have : t = ⟨xb, vb⟩ := by simpa using htm
              subst this
              exact ⟨gb3, gb4⟩
          have hq2 : q.length < 2 := by
            have := congrArg List.length e
            simp at this
            omega
          refine sg_tup ⟨_, rfl, rfl, sgs_cons (sg_name (lt_r rfl) (sgs_cons (sg_name (lt_r rfl) (sgs_nil ?_))))⟩
          refine sw_set (ed_new (ew_cat (ed_var rfl ⟨_, rfl, ed_new (ew_lst (ea_cons (ed_tup (ea_cons (ed_var rfl (ea_cons (ed_I0 (ed_int ⟨_, rfl, ed_var rfl ⟨_, rfl, ea_nil ⟨smallr rfl, ?_⟩⟩⟩))))))))⟩)))
          refine ea_cons (ed_tup (ea_cons (ed_ixTc (ed_var rfl ⟨_, _, rfl, rfl, ea_cons (ed_I0 (ed_int ⟨_, rfl, ed_ixTc (ed_var rfl ⟨_, _, rfl, rfl, _, rfl, ea_nil ⟨smallr rfl, ?_⟩⟩)⟩))⟩))))
          refine ea_cons (ed_tup (ea_cons (ed_var rfl (ea_cons (ed_var rfl (ea_nil ⟨smallr rfl, ea_cons (ed_var rfl (ea_nil ⟨smallr rfl, _, rfl, _, rfl, ?_, _, rfl, lt_r rfl, ?_⟩))⟩))))))
          · rw [List.length_map, sizeLine_eq]; simp; omega
          · refine ⟨ts ++ [⟨t.name, 1 - t.way⟩, ⟨xc, 1 - vc⟩, ⟨t.name, t.way⟩, ⟨xc, vc⟩], .d (.str t.name), .d (.int t.way), by simp; omega, fun y hy => ?_, by rw [List.map_append]; rfl⟩
            have ht1 := hto.1
            have ht2 := hto.2
            rcases List.mem_append.mp hy with hy | hy
            · exact h2 y hy
            · rcases List.mem_cons.mp hy with rfl | hy
              · exact ⟨ht1, by show 1 - t.way = 0 ∨ 1 - t.way = 1; omega⟩
              · rcases List.mem_cons.mp hy with rfl | hy
                · exact ⟨gc3, by show 1 - vc = 0 ∨ 1 - vc = 1; omega⟩
                · rcases List.mem_cons.mp hy with rfl | hy
                  · exact ⟨ht1, ht2⟩
                  · have : y = ⟨xc, vc⟩ := by simpa using hy
                    subst this
                    exact ⟨gc3, gc4⟩
        · obtain ⟨ts, s9, s10, h1, h2, rfl⟩ := iv
          exact ⟨ts, s9, s10, h1, h2, rfl⟩
      · rintro Γ1 ⟨ts, s9, s10, h1, h2, rfl⟩
        refine sw_seq (sw_set (ed_new (ew_cat (ed_new (ew_lst (ea_cons (ed_tup (ea_cons (ed_tup (ea_cons (ed_int (ea_cons (ed_int (ea_nil ⟨smallr rfl, ?_⟩))))))))))))))
        refine ea_cons (ed_tup (ea_cons (ed_int (ea_cons (ed_int (ea_nil ⟨smallr rfl, ea_cons (ed_int (ea_nil ⟨smallr rfl, ea_nil ⟨smallr rfl, _, rfl, _, rfl, ?_⟩⟩))⟩))))))
        refine ed_new (ew_lc1 [0, 1, 2, 4, 5, 6] PyData.int (fun k => Spot.D ⟨[k], [k + 1], 0⟩) mon_name tch1 ?_ (fun k hk => ?_) ⟨_, rfl, _, rfl, smallr rfl, _, rfl, lt_r rfl, ?_⟩)
        · exact iw_tup (ed_tup (ea_cons (ed_int (ea_cons (ed_int (ea_cons (ed_int (ea_cons (ed_int (ea_cons (ed_int (ea_cons (ed_int (ea_nil ⟨smallr rfl, _, rfl, rfl, rfl, smallr rfl⟩))))))))))))))
        · exact sg_name (lt_r rfl) (ed_tup (ea_cons (ed_tup (ea_cons (ed_var rfl (ea_nil ⟨smallr rfl, ea_cons (ed_tup (ea_cons (ed_I0 (ed_var rfl ⟨_, rfl, ed_int ⟨_, rfl, ea_nil ⟨smallr rfl, ea_cons (ed_int (ea_nil ⟨smallr rfl, rfl, rfl⟩))⟩⟩⟩))))⟩))))))
        · refine sw_seq (sw_set (ed_new (ew_lcL (ns.zip vs) (fun p => PyData.tuple [.str p.1, .int p.2]) (fun q Γ acc => ∃ ws : List Wire, ws.length = q.length ∧ ws.map (·.name) = q.map (·.1) ∧ (∀ x ∈ ws, Wok x) ∧ acc = ws.map Wire.D ∧ Γ = [.o (Op p (n1 + 1)), .d (.list (ns.map PyData.str)), .d (.list (vs.map PyData.int)), .d (.list ([a, b, c].map fun (k : Nat) => PyData.int (k : Int))), .d (Trn.D ⟨xa, va⟩), .d (Trn.D ⟨xb, vb⟩), .d (Trn.D ⟨xc, vc⟩), .o (Osd [xa, xb, xc]), .d (.list (ts.map Trn.D)), .no, .no, .d (.list ([PyData.tuple [.tuple [.int 3, .int 7], .tuple [.int 0, .int 4], .int 1]] ++ List.map (fun k => Spot.D ⟨[k], [k + 1], 0⟩) [0, 1, 2, 4, 5, 6])), .no, .no, .no]) mon2 tch2 ?_)))
          refine iw_zip (ea_cons (ed_var rfl (ea_cons (ed_var rfl (ea_nil ⟨_, _, .inl rfl, zipD_map _ _ _ _, small (m := 3) (by rw [List.length_zip]; omega), ⟨[], rfl, rfl, by simp, rfl, rfl⟩, fun q x q2 Γ3 acc e iv => ?_, fun Γ3 acc iv => ?_⟩)))))
          · obtain ⟨ws, g1, g2, g3, rfl, rfl⟩ := iv
            have hx : x ∈ ns.zip vs := by rw [e]; simp
            have hx1 := (List.of_mem_zip hx).1
            have hx2 := (List.of_mem_zip hx).2
            refine sg_tup ⟨_, rfl, rfl, sgs_cons (sg_name (lt_r rfl) (sgs_cons (sg_name (lt_r rfl) (sgs_nil ?_))))⟩
            refine et_yes ⟨fun _ => ?_, fun z => Bool.noConfusion z⟩
            refine ed_tup (ea_cons (ed_var rfl (ea_cons (ed_dget ⟨_, rfl⟩ (ed_var rfl ⟨[xa, xb, xc], x.1, rfl, rfl, hin _ hx1, fun sd => ea_cons (ed_var rfl (ea_nil ⟨smallr rfl, ws ++ [⟨x.1, sd, x.2⟩], by simp [g1], by simp [g2], fun y hy => ?_, by rw [List.map_append]; rfl, rfl⟩))⟩)))))
            rcases List.mem_append.mp hy with hy | hy
            · exact g3 y hy
            · have : y = ⟨x.1, sd, x.2⟩ := by simpa using hy
              subst this
              exact hv01 _ hx2
          · obtain ⟨ws, g1, g2, g3, rfl, rfl⟩ := iv
            rw [List.map_fst_zip (by omega)] at g2
            have hwl : ws.length = 3 := by have := congrArg List.length g2; rw [List.length_map] at this; omega
            refine ⟨_, rfl, lt_r rfl, ?_⟩
            refine sw_retd (ed_tup (ea_cons (ed_tupC (es_list (ed_var rfl ⟨_, rfl, rfl, ea_cons (ed_tupC (es_list (ed_var rfl ⟨_, rfl, rfl, ea_cons (ed_tupC (es_list (ed_var rfl ⟨_, rfl, rfl, ea_nil ⟨smallr rfl, n1 + 1, rfl, ?_⟩⟩)))⟩)))⟩)))))
            refine r (n1 + 1) ⟨ws, ts, ⟨[3, 7], [0, 4], 1⟩ :: [0, 1, 2, 4, 5, 6].map fun (k : Int) => ⟨[k], [k + 1], 0⟩⟩ (by omega) (Gs.mk' (ns := ns) (fun x hx => by rw [g2]; exact hx) g3 h2 (fun y hy => ?_) (by simp; omega) (by omega) (by simp) (by omega) (by omega)) h1 rfl hwl
            rw [h1]
            rcases List.mem_cons.mp hy with rfl | hy
            · refine ⟨fun k hk => ?_, fun k hk => ?_, by simp, by simp, .inr rfl⟩
              · rcases List.mem_cons.mp hk with rfl | hk
                · omega
                · have : k = 7 := by simpa using hk
                  omega
              · rcases List.mem_cons.mp hk with rfl | hk
                · omega
                · have : k = 4 := by simpa using hk
                  omega
            · obtain ⟨k, hk, rfl⟩ := List.mem_map.mp hy
              have hk' : k = 0 ∨ k = 1 ∨ k = 2 ∨ k = 4 ∨ k = 5 ∨ k = 6 := by simpa using hk
              refine ⟨fun j hj => ?_, fun j hj => ?_, by simp, by simp, .inl rfl⟩
              · have : j = k := by simpa using hj
                omega
              · have : j = k + 1 := by simpa using hj
                omega
end G

/-! ## part 24 -/
set_option Elab.async false
set_option linter.all false
set_option maxRecDepth 100000
set_option maxHeartbeats 2000000
namespace G
open PySem PySem.Spec PyProof.Rows L2
/-! ### beside -/
def shift (n : Nat) (p : Spot) : Spot := ⟨p.bf.map (· + (n : Int)), p.bh.map (· + (n : Int)), p.mark⟩
theorem alike_wire (x y : Wire) : PySem.W.alike x.D y.D = true := by simp [Wire.D, PySem.W.alike, PySem.W.alikeAll]
theorem depth_wire (x : Wire) : x.D.depth ≤ 40 := by simp [Wire.D, PyData.depth, PyData.depthAll]
def S_law_beside (ds : List PyData) (R : Sv → Prop) : Prop := ∃ S1 S2 : Sheet, ds = [S1.D, S2.D] ∧ S1.spots.length ≤ 100 ∧ S2.spots.length ≤ 100 ∧ S1.wires.length ≤ 100 ∧ S2.wires.length ≤ 100 ∧ S1.turns.length ≤ 100 ∧ S2.turns.length ≤ 100 ∧ (∀ p ∈ S2.spots, p.bf.length ≤ 100 ∧ p.bh.length ≤ 100) ∧
  ∀ ws : List Wire, ws.Perm (S1.wires ++ S2.wires) → R (.d (Sheet.D ⟨ws, S1.turns ++ S2.turns, S1.spots ++ S2.spots.map (shift S1.turns.length)⟩))
theorem w_law_beside {K : PySem.W.Frag} (ds : List PyData) (R : Sv → Prop) (hl : ds.length = 2) (h : S_law_beside ds R) :
    Sw (t_law_beside K) (ds.map Sv.d ++ List.replicate (N_law_beside.length - 2) .no) (fun _ => R (.d .none)) (fun _ s => R s) (fun _ => False) (fun _ => False) := by
  obtain ⟨S1, S2, rfl, z1, z2, z3, z4, z5, z6, hb, r⟩ := h
  unfold t_law_beside
  show Sw _ [.d S1.D, .d S2.D, .no, .no, .no, .no, .no, .no] _ _ _ _
  refine sw_seq (sw_set (ed_len (es_tup (ed_ixTc (ed_var rfl ⟨_, _, rfl, rfl, _, rfl, lt_r rfl, ?_⟩)))))
  rw [List.length_map]
  refine sw_seq (sw_setO (ew_list (es_tup (ed_ixTc (ed_var rfl ⟨_, _, rfl, rfl, _, rfl, _, rfl, lt_r rfl, ?_⟩)))))
  refine sw_cut (fun Γ => ∃ (s4 s5 s6 : Sv), Γ = [.d S1.D, .d S2.D, .d (.int S1.turns.length), .o (Ol ((S1.spots ++ S2.spots.map (shift S1.turns.length)).map Spot.D)), s4, s5, s6, .no])
    (sw_forL S2.spots Spot.D (fun q Γ => ∃ (s4 s5 s6 : Sv), Γ = [.d S1.D, .d S2.D, .d (.int S1.turns.length), .o (Ol ((S1.spots ++ q.map (shift S1.turns.length)).map Spot.D)), s4, s5, s6, .no]) ?_) ?_
  · refine iw_tup (ed_ixTc (ed_var rfl ⟨_, _, rfl, rfl, _, rfl, rfl, ⟨.no, .no, .no, by rw [List.map_nil, List.append_nil]; rfl⟩, fun q x q2 Γ2 e iv => ?_, fun Γ2 iv => iv⟩))
    obtain ⟨s4, s5, s6, rfl⟩ := iv
    have hx : x ∈ S2.spots := by rw [e]; simp
    have hq : q.length ≤ 100 := by
      have := congrArg List.length e
      simp at this
      omega
    refine sg_tup ⟨_, rfl, rfl, sgs_cons (sg_name (lt_r rfl) (sgs_cons (sg_name (lt_r rfl) (sgs_cons (sg_name (lt_r rfl) (sgs_nil ?_))))))⟩
    refine sw_app ⟨_, _, rfl⟩ (ed_tup (ea_cons (ed_tupC (es_new (ew_lc1 x.bf PyData.int (fun k => .int (k + (S1.turns.length : Int))) mon_name tch1 (iw_tup (ed_var rfl ⟨_, rfl, rfl, rfl, small (m := 100) (hb x hx).1⟩)) (fun k hk => sg_name (lt_r rfl) (ed_I0 (ed_var rfl ⟨_, rfl, ed_var rfl ⟨_, rfl, rfl, rfl⟩⟩))) ⟨_, rfl, rfl, ?_⟩)))))
    refine ea_cons (ed_tupC (es_new (ew_lc1 x.bh PyData.int (fun k => .int (k + (S1.turns.length : Int))) mon_name tch1 (iw_tup (ed_var rfl ⟨_, rfl, rfl, rfl, small (m := 100) (hb x hx).2⟩)) (fun k hk => sg_name (lt_r rfl) (ed_I0 (ed_var rfl ⟨_, rfl, ed_var rfl ⟨_, rfl, rfl, rfl⟩⟩))) ⟨_, rfl, rfl, ?_⟩)))
    refine ea_cons (ed_var rfl (ea_nil ⟨smallr rfl, _, _, rfl, ?_, .d (.tuple (x.bf.map .int)), .d (.tuple (x.bh.map .int)), .d (.int x.mark), ?_⟩))
    · rw [List.length_map, sizeLine_eq]; simp; omega
    · have e5 : PyData.tuple [.tuple (x.bf.map fun k => .int (k + (S1.turns.length : Int))), .tuple (x.bh.map fun k => .int (k + (S1.turns.length : Int))), .int x.mark] = (shift S1.turns.length x).D := by
        unfold shift Spot.D
        simp only [List.map_map]
        rfl
      rw [e5, List.map_append (l₂ := [x]), ← List.append_assoc, List.map_append (l₂ := List.map (shift S1.turns.length) [x])]
      rfl
  · rintro Γ1 ⟨s4, s5, s6, rfl⟩
    refine sw_retd (ed_tup (ea_cons (ed_tupC (es_new (ew_sorted (es_tup (ed_catT (ed_ixTc (ed_var rfl ⟨_, _, rfl, rfl, _, rfl, ed_ixTc (ed_var rfl ⟨_, _, rfl, rfl, _, rfl, ?_, _, rfl, ?_⟩)⟩)))))))))
    · rw [List.length_map, List.length_map, sizeLine_eq]; omega
    · rw [← List.map_append]
      refine ⟨fun d hd d' hd' => ?_, .inl fun d hd => ?_, ?_, fun d hd => ?_, _, rfl, rfl, ?_⟩
      · obtain ⟨f, _, rfl⟩ := List.mem_map.mp hd
        obtain ⟨g, _, rfl⟩ := List.mem_map.mp hd'
        exact alike_wire _ _
      · obtain ⟨f, _, rfl⟩ := List.mem_map.mp hd
        exact ⟨_, _, rfl⟩
      · rw [List.length_map, sizeLine_eq]; simp; omega
      · obtain ⟨f, _, rfl⟩ := List.mem_map.mp hd
        exact depth_wire _
      · refine ea_cons (ed_catT (ed_ixTc (ed_var rfl ⟨_, _, rfl, rfl, _, rfl, ed_ixTc (ed_var rfl ⟨_, _, rfl, rfl, _, rfl, ?_, ea_cons (ed_tupC (es_own rfl ⟨rfl, ea_nil ⟨smallr rfl, ?_⟩⟩))⟩)⟩)))
        · rw [List.length_map, List.length_map, sizeLine_eq]; omega
        · obtain ⟨ys, e1, e2⟩ := sort_code Wire.D (S1.wires ++ S2.wires)
          rw [e1, ← List.map_append]
          exact r ys e2

/-! ### by_choice -/
theorem cut_to {ds : List PyData} {j : Nat} (h : j ≤ ds.length) : cutD ds none (some (j : Int)) = ds.take j := by
  unfold cutD
  rw [HT.sIx_nat, HT.sIx_none, Nat.min_eq_left h, List.drop_zero, Nat.sub_zero]
theorem pick4 {r : Nat} (h : r < 4) : ∃ rs : List Nat, atI [PyData.list [], .list [.int 1], .list [.int 2], .list [.int 1, .int 1]] (r : Int) = some (.list (rs.map fun (k : Nat) => PyData.int (k : Int))) ∧ rs.length ≤ 2 ∧ rs.sum ≤ 2 ∧ (∀ x ∈ rs, 1 ≤ x) ∧ 2 * rs.sum + 2 * (if 1 < rs.length then 1 else 0) + rs.length ≤ 8 ∧ (rs ≠ [] → 1 ≤ rs.sum) := by
  match r, h with
  | 0, _ => exact ⟨[], atI_ofNat rfl, by decide, by decide, by decide, by decide, by decide⟩
  | 1, _ => exact ⟨[1], atI_ofNat rfl, by decide, by decide, by decide, by decide, by decide⟩
  | 2, _ => exact ⟨[2], atI_ofNat rfl, by decide, by decide, by decide, by decide, by decide⟩
  | 3, _ => exact ⟨[1, 1], atI_ofNat rfl, by decide, by decide, by decide, by decide, by decide⟩
theorem natsD (rs : List Nat) : (rs.map fun (k : Nat) => PyData.int (k : Int)) = (rs.map fun (k : Nat) => (k : Int)).map PyData.int := by rw [List.map_map]; rfl
def S_law_by_choice (n : Nat) (ds : List PyData) (R : Nat → Sv → Prop) : Prop := n ≤ 40000 ∧ ds = [] ∧ ∀ (m : Nat) (S : Sheet), m ≤ n + 400 → Gs S → R m (.d S.D)
theorem w_law_by_choice {K : PySem.W.Frag} (p : Addr) (n : Nat) (ds : List PyData) (R : Nat → Sv → Prop) (hl : ds.length = 0) (h : S_law_by_choice n ds R) :
    Sw (t_law_by_choice K (SpP 1 S_law_draw) (SpP 1 S_law_names) (SpP 1 S_law_choice) (SpP 2 S_law_word) (SpD 1 S_law_chains) (SpP 2 S_law_joined) (SpD 2 S_law_beside)) (.o (Op p n) :: (ds.map Sv.d ++ List.replicate (N_law_by_choice.length - 1) .no)) (fun Γ' => ∃ m', Γ'[0]? = some (.o (Op p m')) ∧ R m' (.d .none)) (fun Γ' s => ∃ m', Γ'[0]? = some (.o (Op p m')) ∧ R m' s) (fun _ => False) (fun _ => False) := by
  obtain ⟨hn, rfl, r⟩ := h
  unfold t_law_by_choice
  show Sw _ [.o (Op p n), .no, .no, .no, .no, .no, .no] _ _ _ _
  refine sw_seq (sw_set (ed_ixL (ed_new (ew_lst (ea_cons (ed_new (ew_lst (ea_nil ⟨smallr rfl, _, rfl, ?_⟩))))))))
  refine ea_cons (ed_new (ew_lst (ea_cons (ed_int (ea_nil ⟨smallr rfl, _, rfl, ?_⟩)))))
  refine ea_cons (ed_new (ew_lst (ea_cons (ed_int (ea_nil ⟨smallr rfl, _, rfl, ?_⟩)))))
  refine ea_cons (ed_new (ew_lst (ea_cons (ed_int (ea_cons (ed_int (ea_nil ⟨smallr rfl, _, rfl, ea_nil ⟨smallr rfl, _, rfl, _, rfl, ?_⟩⟩)))))))
  refine ed_ew (ew_callP rfl (ea_cons (ed_int (ea_nil ⟨n, rfl, rfl, by omega, 4, by decide, by decide, rfl, fun q hq => ⟨_, rfl, ?_⟩⟩))))
  obtain ⟨rs, hp, h1, h2, h3, h4, h5⟩ := pick4 hq
  refine ⟨_, _, rfl, hp, lt_r rfl, ?_⟩
  refine sw_seq (sw_set (ed_ew (ew_callP rfl (ea_cons (ed_I0 (ed_int ⟨_, rfl, ed_len (es_list (ed_var rfl ⟨_, rfl, _, rfl, ea_nil ⟨n + 1, rfl, rfl, by omega, 3 + rs.length, by omega, by simp, fun m1 ns hm1 hns hok => ⟨_, ⟨_, rfl, rfl⟩, lt_r rfl, ?_⟩⟩⟩))⟩))))))
  have et : cutD (ns.map PyData.str) none (some (3 : Int)) = (ns.take 3).map PyData.str := by
    have := cut_to (ds := ns.map PyData.str) (j := 3) (by simp; omega)
    rw [List.map_take, ← this]
    rfl
  have ed : cutD (ns.map PyData.str) (some (3 : Int)) none = (ns.drop 3).map PyData.str := by
    have := cut_from (ds := ns.map PyData.str) (j := 3) (by simp; omega)
    rw [List.map_drop, ← this]
    rfl
  refine sw_seq (sw_set (ed_ew (ew_callP rfl (ea_cons (ed_new (ew_slL (ed_var rfl ⟨_, rfl, eo_none (eo_some (ed_int ⟨_, rfl, _, rfl, ea_nil ⟨m1, rfl, rfl, by omega, ns.take 3, by simp; omega, by rw [et], fun m2 S1 hm2 g1 gt1 gs1 gw1 => ⟨_, rfl, lt_r rfl, ?_⟩⟩⟩))⟩)))))))
  refine sw_seq (sw_ifV rs.isEmpty ?_ (fun hb => ?_) (fun hb => ?_))
  · refine et_test (ed_eqD (ed_var rfl (ed_new (ew_lst (ea_nil ⟨smallr rfl, [], rfl, by rw [natsD]; exact shaped_ints _, shaped_nil, _, rfl, rfl, ?_⟩)))))
    rw [eqv_nil]
    cases rs <;> rfl
  · exact sw_retd (ed_var rfl ⟨m2, rfl, r m2 S1 (by omega) g1⟩)
  · have hne : rs ≠ [] := fun e => by rw [e] at hb; simp at hb
    have hsum := h5 hne
    refine sw_next ?_
    refine sw_seq (sw_asg (ed_ew (ew_callP rfl (ea_cons (ed_new (ew_slL (ed_var rfl ⟨_, rfl, eo_some (ed_int ⟨_, rfl, eo_none ⟨_, rfl, ea_cons (ed_var rfl (ea_nil ⟨m2, rfl, rfl, by omega, ns.drop 3, rs, by simp; omega, by simp; omega, by omega, h3, fun x hx => hok x (List.mem_of_mem_drop hx), by rw [ed], fun m3 ws ts hm3 hws hwok htl htok => ⟨_, rfl, ?_⟩⟩))⟩⟩)⟩)))))))
    have hwl : ws.length = rs.length := by have := congrArg List.length hws; rw [List.length_map, List.length_drop] at this; omega
    refine sg_tup ⟨_, rfl, rfl, sgs_cons (sg_name (lt_r rfl) (sgs_cons (sg_name (lt_r rfl) (sgs_nil ?_))))⟩
    refine sw_seq (sw_set (ed_new (ew_cat (ed_ew (ew_call (ea_cons (ed_var rfl (ea_nil ⟨rfl, ts, by omega, rfl, fun sp1 hs1 hs2 => ⟨_, ⟨_, rfl, rfl⟩, _, rfl, ?_⟩⟩))))))))
    refine ed_ew (ew_callP rfl (ea_cons (ed_var rfl (ea_cons (ed_intB (ea_cons (ed_B0 (ed_len (es_list (ed_var rfl ⟨_, rfl, _, rfl, ed_int ⟨_, rfl, ea_nil ⟨_, rfl, ea_nil ⟨m3, rfl, rfl, by omega, ts, if 1 < rs.length then 1 else 0, by omega, by omega, ?_, ?_, fun m4 sp2 hm4 hs3 hs4 => ⟨_, ⟨_, rfl, rfl⟩, _, rfl, ?_, _, rfl, lt_r rfl, ?_⟩⟩⟩⟩⟩))))))))))
    · split <;> omega
    · rw [List.length_map]
      by_cases c : 1 < rs.length
      · have c' : (1 : Int) < (rs.length : Int) := by omega
        simp [c, c']
      · have c' : ¬ (1 : Int) < (rs.length : Int) := by omega
        simp [c, c']
    · rw [List.length_map, List.length_map, sizeLine_eq]
      have : (if 1 < rs.length then 1 else 0) ≤ 1 := by split <;> omega
      omega
    · rw [← List.map_append]
      have h1' : (if 1 < rs.length then 1 else 0) ≤ 1 := by split <;> omega
      have hspok : ∀ p ∈ sp1 ++ sp2, SpOk ts.length p := fun p hp => by
        rcases List.mem_append.mp hp with hp | hp
        · exact hs2 p hp
        · exact hs4 p hp
      refine sw_ret (ew_call (ea_cons (ed_var rfl (ea_cons (ed_tup (ea_cons (ed_var rfl (ea_cons (ed_var rfl (ea_cons (ed_tupC (es_list (ed_var rfl ⟨_, rfl, rfl, ea_nil ⟨smallr rfl, ea_nil ⟨rfl, S1, ⟨ws, ts, sp1 ++ sp2⟩, rfl, by omega, by simp; omega, by omega, by simp; omega, by omega, by simp; omega, fun p hp => ?_, fun ws' hp => ⟨m4, rfl, ?_⟩⟩⟩⟩)))))))))))))
      · have := hspok p hp
        exact ⟨by have := this.2.2.1; omega, by have := this.2.2.2.1; omega⟩
      · have hlen : ws'.length = 3 + ws.length := by rw [hp.length_eq, List.length_append, gw1]
        refine r m4 _ (by omega) (Gs.mk' (ns := ws'.map (·.name)) (fun x hx => hx) (fun x hx => ?_) (fun t ht => ?_) (fun q hq => ?_) ?_ ?_ ?_ ?_ (by omega))
        · rcases List.mem_append.mp (hp.mem_iff.mp hx) with hx | hx
          · exact g1.ok.val x hx
          · exact hwok x hx
        · rcases List.mem_append.mp ht with ht | ht
          · obtain ⟨x, hx1, hx2⟩ := g1.ok.nm t ht
            exact ⟨List.mem_map.mpr ⟨x, hp.mem_iff.mpr (List.mem_append_left _ hx1), hx2⟩, g1.ok.way t ht⟩
          · have := htok t ht
            have h6 := this.1
            rw [← hws] at h6
            obtain ⟨x, hx1, hx2⟩ := List.mem_map.mp h6
            exact ⟨List.mem_map.mpr ⟨x, hp.mem_iff.mpr (List.mem_append_right _ hx1), hx2⟩, this.2⟩
        · rw [List.length_append]
          rcases List.mem_append.mp hq with hq | hq
          · have a1 := g1.ok.bf q hq
            have a2 := g1.ok.bh q hq
            have a3 := g1.bl q hq
            exact ⟨fun k hk => ⟨(a1 k hk).1, by have := (a1 k hk).2; omega⟩, fun k hk => ⟨(a2 k hk).1, by have := (a2 k hk).2; omega⟩, a3.1, a3.2, g1.ok.mark q hq⟩
          · obtain ⟨q0, hq0, rfl⟩ := List.mem_map.mp hq
            obtain ⟨b1, b2, b3, b4, b5⟩ := hspok q0 hq0
            refine ⟨fun k hk => ?_, fun k hk => ?_, by simpa [shift] using b3, by simpa [shift] using b4, b5⟩
            · obtain ⟨k0, hk0, rfl⟩ := List.mem_map.mp hk
              have := b1 k0 hk0
              have e0 : (Sheet.mk ws ts (sp1 ++ sp2)).turns.length = ts.length := rfl
              omega
            · obtain ⟨k0, hk0, rfl⟩ := List.mem_map.mp hk
              have := b2 k0 hk0
              have e0 : (Sheet.mk ws ts (sp1 ++ sp2)).turns.length = ts.length := rfl
              omega
        · simp
          have : sp2.length ≤ 2 * (if 1 < rs.length then 1 else 0) := hs3
          omega
        · simp; omega
        · simp; omega
        · simp; omega

/-! ### order -/
def rangeI (n : Nat) : List Int := (List.range n).map fun (k : Nat) => (k : Int)
theorem mem_rangeI {n : Nat} {k : Int} : k ∈ rangeI n ↔ 0 ≤ k ∧ k < n := by
  unfold rangeI
  rw [List.mem_map]
  constructor
  · rintro ⟨j, hj, rfl⟩
    have := List.mem_range.mp hj
    omega
  · rintro ⟨h0, h1⟩
    exact ⟨k.toNat, List.mem_range.mpr (by omega), by omega⟩
theorem rangeI_len (n : Nat) : (rangeI n).length = n := by simp [rangeI]
theorem rangeI_nodup (n : Nat) : (rangeI n).Nodup := by
  unfold rangeI
  rw [List.Nodup, List.pairwise_map]
  exact List.nodup_range.imp fun h e => h (by omega)
theorem rangeI_succ (n : Nat) : rangeI (n + 1) = rangeI n ++ [(n : Int)] := by
  unfold rangeI
  rw [List.range_succ, List.map_append]
  rfl
def S_law_order (n : Nat) (ds : List PyData) (R : Nat → Sv → Prop) : Prop := n ≤ 60000 ∧ ∃ k : Nat, k ≤ 100 ∧ ds = [.int k] ∧ ∀ (m : Nat) (os : List Int), m ≤ n + 100 → os.Perm (rangeI k) → R m (.o (Ol (os.map PyData.int)))
theorem w_law_order {K : PySem.W.Frag} (p : Addr) (n : Nat) (ds : List PyData) (R : Nat → Sv → Prop) (hl : ds.length = 1) (h : S_law_order n ds R) :
    Sw (t_law_order K (SpP 1 S_law_draw)) (.o (Op p n) :: (ds.map Sv.d ++ List.replicate (N_law_order.length - 2) .no)) (fun Γ' => ∃ m', Γ'[0]? = some (.o (Op p m')) ∧ R m' (.d .none)) (fun Γ' s => ∃ m', Γ'[0]? = some (.o (Op p m')) ∧ R m' s) (fun _ => False) (fun _ => False) := by
  obtain ⟨hn, k, hk, rfl, r⟩ := h
  unfold t_law_order
  show Sw _ [.o (Op p n), .d (.int k), .no, .no] _ _ _ _
  refine sw_seq (sw_setO (ew_lst (ea_nil ⟨smallr rfl, _, rfl, lt_r rfl, ?_⟩)))
  refine sw_cut (fun Γ => ∃ (n' : Nat) (os : List Int) (s3 : Sv), n' ≤ n + k ∧ os.Perm (rangeI k) ∧ Γ = [.o (Op p n'), .d (.int k), .o (Ol (os.map PyData.int)), s3])
    (sw_forJ (List.range k) (fun j => .int (j : Int)) (fun j Γ => ∃ (n' : Nat) (os : List Int) (s3 : Sv), n' ≤ n + j ∧ os.Perm (rangeI j) ∧ Γ = [.o (Op p n'), .d (.int k), .o (Ol (os.map PyData.int)), s3]) ?_) ?_
  · refine iw_rng (ea_cons (ed_var rfl (ea_nil ⟨k, rfl, by omega, rfl, ⟨n, [], .no, by omega, .nil, rfl⟩, fun j x Γ2 hj iv => ?_, fun Γ2 iv => ?_⟩)))
    · obtain ⟨n', os, s3, h1, h2, rfl⟩ := iv
      have hjk : j < k := by have := (List.getElem?_eq_some_iff.mp hj).1; simpa using this
      have hx : x = j := by rw [List.getElem?_range hjk] at hj; cases hj; rfl
      subst hx
      have hol : os.length = x := by rw [h2.length_eq, rangeI_len]
      refine sg_name (lt_r rfl) (sw_ins ⟨_, _, rfl⟩ (ea_cons (ed_ew (ew_callP rfl (ea_cons (ed_I0 (ed_var rfl ⟨_, rfl, ed_int ⟨_, rfl, ea_nil ⟨n', rfl, rfl, by omega, x + 1, by omega, by omega, rfl, fun q hq => ⟨_, rfl, ?_⟩⟩⟩⟩)))))))
      refine ea_cons (ed_var rfl (ea_nil ⟨_, _, _, _, rfl, rfl, by rw [List.length_map, sizeLine_eq]; omega, by omega, by omega, ?_⟩))
      refine ⟨n' + 1, os.take q ++ [(x : Int)] ++ os.drop q, .d (.int x), by omega, ?_, ?_⟩
      · rw [rangeI_succ]
        refine List.Perm.trans ?_ (h2.append_right _)
        rw [List.append_assoc]
        refine List.Perm.trans (List.perm_append_comm (l₁ := os.take q)) ?_
        rw [List.append_assoc]
        refine List.Perm.trans (List.perm_append_comm (l₁ := [(x : Int)])) ?_
        refine List.Perm.append_right _ ?_
        refine List.Perm.trans (List.perm_append_comm (l₁ := os.drop q)) ?_
        rw [List.take_append_drop]
      · simp only [List.map_append, List.map_take, List.map_drop]
        rfl
    · obtain ⟨n', os, s3, h1, h2, rfl⟩ := iv
      rw [List.length_range] at h1 h2
      exact ⟨n', os, s3, h1, h2, rfl⟩
  · rintro Γ1 ⟨n', os, s3, h1, h2, rfl⟩
    exact sw_ret (ew_own rfl ⟨n', rfl, r n' os (by omega) h2⟩)

/-! ### numbered -/
def newOf (os : List Int) (k : Int) : Int := (os.idxOf k : Nat)
def newsOf (os : List Int) : List Int := (rangeI os.length).map (newOf os)
def spotAt (S : Sheet) (q : Int) : Spot := S.spots[q.toNat]?.getD ⟨[], [], 0⟩
theorem spotAt_get {S : Sheet} {k : Int} (h0 : 0 ≤ k) (h1 : k < S.spots.length) : S.spots[k.toNat]? = some (spotAt S k) := by
  unfold spotAt
  rw [List.getElem?_eq_getElem (by omega)]
  rfl
theorem spot_at {S : Sheet} {k : Int} (h0 : 0 ≤ k) (h1 : k < S.spots.length) : atI (S.spots.map Spot.D) k = some (spotAt S k).D := atI_map _ (atI_of h0 (spotAt_get h0 h1))
theorem spotAt_mem {S : Sheet} {k : Int} (h0 : 0 ≤ k) (h1 : k < S.spots.length) : spotAt S k ∈ S.spots := List.mem_of_getElem? (spotAt_get h0 h1)
structure Ren (os : List Int) (p p' : Spot) : Prop where
  bf : p'.bf.Perm (p.bf.map (newOf os))
  bh : p'.bh.Perm (p.bh.map (newOf os))
  mark : p'.mark = p.mark
theorem newsOf_get {os : List Int} {n : Nat} (h : os.Perm (rangeI n)) {k : Int} (h0 : 0 ≤ k) (h1 : k < n) : atI (newsOf os) k = some (newOf os k) := by
  have hl : os.length = n := by rw [h.length_eq, rangeI_len]
  unfold newsOf rangeI
  rw [List.map_map, hl]
  refine atI_of h0 ?_
  rw [List.getElem?_map, List.getElem?_range (by omega)]
  show some (newOf os ((k.toNat : Nat) : Int)) = _
  rw [show ((k.toNat : Nat) : Int) = k by omega]
def S_law_numbered (ds : List PyData) (R : Sv → Prop) : Prop := ∃ (S : Sheet) (os ps : List Int), Ok S ∧ os.Perm (rangeI S.turns.length) ∧ ps.Perm (rangeI S.spots.length) ∧ ds = [S.D, .list (os.map PyData.int), .list (ps.map PyData.int)] ∧
  ∀ sp : List Spot, sp.length = ps.length → (∀ (i : Nat) q p', ps[i]? = some q → sp[i]? = some p' → Ren os (spotAt S q) p') → R (.d (.tuple [Sheet.D ⟨S.wires, os.map (turnAt S), sp⟩, .list ((newsOf os).map PyData.int)]))
theorem w_law_numbered {K : PySem.W.Frag} (ds : List PyData) (R : Sv → Prop) (hl : ds.length = 3) (h : S_law_numbered ds R) :
    Sw (t_law_numbered K) (ds.map Sv.d ++ List.replicate (N_law_numbered.length - 3) .no) (fun _ => R (.d .none)) (fun _ s => R s) (fun _ => False) (fun _ => False) := by
  obtain ⟨S, os, ps, ok, ho, hp, rfl, r⟩ := h
  have hol : os.length = S.turns.length := by rw [ho.length_eq, rangeI_len]
  have hpl : ps.length = S.spots.length := by rw [hp.length_eq, rangeI_len]
  have hsz := ok.size
  have htn := ok.tn
  unfold t_law_numbered
  show Sw _ [.d S.D, .d (.list (os.map PyData.int)), .d (.list (ps.map PyData.int)), .no, .no, .no, .no, .no, .no, .no] _ _ _ _
  refine sw_seq (sw_set (ed_new (ew_lc1 (List.range os.length) (fun j => .int (j : Int)) (fun (j : Nat) => .int (newOf os (j : Int))) mon_name tch1 ?_ (fun j hj => ?_) ⟨_, rfl, lt_r rfl, ?_⟩)))
  · exact iw_rng (ea_cons (ed_len (es_list (ed_var rfl ⟨_, rfl, ea_nil ⟨os.length, by simp, by omega, rfl, rfl, small (m := 20) (by simp; omega)⟩⟩))))
  · have hj' := List.mem_range.mp hj
    refine sg_name (lt_r rfl) (ed_index (ed_var rfl ⟨os, rfl, ed_var rfl ⟨_, rfl, ?_, rfl, rfl⟩⟩))
    rw [ho.mem_iff, mem_rangeI]
    omega
  · have en : (List.range os.length).map (fun (j : Nat) => PyData.int (newOf os (j : Int))) = (newsOf os).map PyData.int := by
      unfold newsOf rangeI
      simp only [List.map_map]
      rfl
    rw [en]
    refine sw_seq (sw_setO (ew_lst (ea_nil ⟨smallr rfl, _, rfl, lt_r rfl, ?_⟩)))
    refine sw_cut (fun Γ => ∃ (sp : List Spot) (s5 s6 s7 s8 : Sv), sp.length = ps.length ∧ (∀ (i : Nat) q p', ps[i]? = some q → sp[i]? = some p' → Ren os (spotAt S q) p') ∧ Γ = [.d S.D, .d (.list (os.map PyData.int)), .d (.list (ps.map PyData.int)), .d (.list ((newsOf os).map PyData.int)), .o (Ol (sp.map Spot.D)), s5, s6, s7, s8, .no])
      (sw_forJ ps PyData.int (fun j Γ => ∃ (sp : List Spot) (s5 s6 s7 s8 : Sv), sp.length = j ∧ (∀ (i : Nat) q p', ps[i]? = some q → sp[i]? = some p' → Ren os (spotAt S q) p') ∧ Γ = [.d S.D, .d (.list (os.map PyData.int)), .d (.list (ps.map PyData.int)), .d (.list ((newsOf os).map PyData.int)), .o (Ol (sp.map Spot.D)), s5, s6, s7, s8, .no]) ?_) ?_
    · refine iw_list (ed_var rfl ⟨_, rfl, rfl, ⟨[], .no, .no, .no, .no, rfl, by simp, rfl⟩, fun j q Γ2 hj iv => ?_, fun Γ2 iv => iv⟩)
      obtain ⟨sp, s5, s6, s7, s8, h1, h2, rfl⟩ := iv
      have hjl := (List.getElem?_eq_some_iff.mp hj).1
      have hqm := hp.mem_iff.mp (List.mem_of_getElem? hj)
      obtain ⟨hq0, hq1⟩ := mem_rangeI.mp hqm
      have hsm := spotAt_mem hq0 hq1
      refine sg_name (lt_r rfl) (sw_seq (sw_asg (ed_ixTv rfl (ed_ixTc (ed_var rfl ⟨_, _, rfl, rfl, rfl, _, _, rfl, spot_at hq0 hq1, ?_⟩)))))
      refine sg_tup ⟨_, rfl, rfl, sgs_cons (sg_name (lt_r rfl) (sgs_cons (sg_name (lt_r rfl) (sgs_cons (sg_name (lt_r rfl) (sgs_nil ?_))))))⟩
      have hbfl := ok.bfl _ hsm
      have hbhl := ok.bhl _ hsm
      refine sw_seq (sw_set (ed_tupC (es_new (ew_sortedI (es_new (ew_lc1 (spotAt S q).bf PyData.int (fun k => .int (newOf os k)) mon_name tch1 (iw_tup (ed_var rfl ⟨_, rfl, rfl, rfl, small (m := 20) hbfl⟩)) (fun k hk => ?_) ⟨_, rfl, (spotAt S q).bf.map (newOf os), by rw [List.map_map]; rfl, by rw [List.length_map]; omega, fun ys1 hy1 _ => ⟨_, rfl, rfl, lt_r rfl, ?_⟩⟩))))))
      · have hk' := ok.bf _ hsm k hk
        exact sg_name (lt_r rfl) (ed_ixL (ed_var rfl ⟨_, rfl, ed_var rfl ⟨_, _, rfl, atI_map PyData.int (newsOf_get ho hk'.1 hk'.2), rfl, rfl⟩⟩))
      · refine sw_app ⟨_, _, rfl⟩ (ed_tup (ea_cons (ed_var rfl (ea_cons (ed_tupC (es_new (ew_sortedI (es_new (ew_lc1 (spotAt S q).bh PyData.int (fun k => .int (newOf os k)) mon_name tch1 (iw_tup (ed_var rfl ⟨_, rfl, rfl, rfl, small (m := 20) hbhl⟩)) (fun k hk => ?_) ⟨_, rfl, (spotAt S q).bh.map (newOf os), by rw [List.map_map]; rfl, by rw [List.length_map]; omega, fun ys2 hy2 _ => ⟨_, rfl, rfl, ea_cons (ed_var rfl (ea_nil ⟨smallr rfl, _, _, rfl, by rw [List.length_map, sizeLine_eq]; omega, ?_⟩))⟩⟩)))))))))
        · have hk' := ok.bh _ hsm k hk
          exact sg_name (lt_r rfl) (ed_ixL (ed_var rfl ⟨_, rfl, ed_var rfl ⟨_, _, rfl, atI_map PyData.int (newsOf_get ho hk'.1 hk'.2), rfl, rfl⟩⟩))
        · refine ⟨sp ++ [⟨ys1, ys2, (spotAt S q).mark⟩], .d (.int q), .d (.tuple (ys1.map PyData.int)), .d (.tuple ((spotAt S q).bh.map PyData.int)), .d (.int (spotAt S q).mark), by simp [h1], fun i q' p' hi hp' => ?_, by rw [List.map_append]; rfl⟩
          by_cases c : i < sp.length
          · rw [List.getElem?_append_left c] at hp'
            exact h2 i q' p' hi hp'
          · have hi2 : i = sp.length := by
              have := (List.getElem?_eq_some_iff.mp hp').1
              simp at this
              omega
            subst hi2
            rw [h1, hj] at hi
            cases hi
            rw [List.getElem?_append_right (Nat.le_refl _), Nat.sub_self] at hp'
            cases hp'
            exact ⟨hy1, hy2, rfl⟩
    · rintro Γ1 ⟨sp, s5, s6, s7, s8, h1, h2, rfl⟩
      refine sw_retd (ed_tup (ea_cons (ed_tup (ea_cons (ed_ixTc (ed_var rfl ⟨_, _, rfl, rfl, ea_cons (ed_tupC (es_new (ew_lc1 os PyData.int (fun k => (turnAt S k).D) mon_name tch1 (iw_list (ed_var rfl ⟨_, rfl, rfl, rfl, small (m := 20) (by omega)⟩)) (fun k hk => ?_) ⟨_, rfl, rfl, ea_cons (ed_tupC (es_own rfl ⟨rfl, ea_nil ⟨smallr rfl, ea_cons (ed_var rfl (ea_nil ⟨smallr rfl, ?_⟩))⟩⟩))⟩)))⟩))))))
      · have hk' := mem_rangeI.mp (ho.mem_iff.mp hk)
        exact sg_name (lt_r rfl) (ed_ixTv rfl (ed_ixTc (ed_var rfl ⟨_, _, rfl, rfl, rfl, _, _, rfl, turn_at hk'.1 hk'.2, rfl, rfl⟩)))
      · have e9 : Sheet.D ⟨S.wires, os.map (turnAt S), sp⟩ = .tuple [.tuple (S.wires.map Wire.D), .tuple (os.map fun k => (turnAt S k).D), .tuple (sp.map Spot.D)] := by
          unfold Sheet.D
          rw [List.map_map]
          rfl
        have := r sp h1 h2
        rw [e9] at this
        exact this
end G

/-! ## part 25 -/
set_option Elab.async false
set_option linter.all false
set_option maxRecDepth 100000
set_option maxHeartbeats 2000000
namespace G
open PySem PySem.Spec PyProof.Rows L2
section
variable {Γ : List Sv} {te ta tb tc : TE} {tt tu : TT} {tas : TA} {K : PySem.W.Frag} {t u : TS} {Nx Bk Ct : List Sv → Prop} {Rt : List Sv → Sv → Prop} {i : Nat}
/-- a test that touches nothing -/
theorem sw_ifA (h : Et tt Γ fun Γ' _ => Γ' = Γ) (h1 : Sw t Γ Nx Rt Bk Ct) (h2 : Sw u Γ Nx Rt Bk Ct) : Sw (tIfS tt t u) Γ Nx Rt Bk Ct := sw_if (h.imp fun Γ' b e => by subst e; exact ⟨fun _ => h1, fun _ => h2⟩)
theorem et_andA (h : Et tt Γ fun Γ' _ => Γ' = Γ) (h2 : Et tu Γ fun Γ' _ => Γ' = Γ) : Et (tAnd tt tu) Γ fun Γ' _ => Γ' = Γ := et_and (h.imp fun Γ' b e => by subst e; exact ⟨fun _ => h2, fun _ => rfl⟩)
theorem et_orA (h : Et tt Γ fun Γ' _ => Γ' = Γ) (h2 : Et tu Γ fun Γ' _ => Γ' = Γ) : Et (tOr tt tu) Γ fun Γ' _ => Γ' = Γ := et_or (h.imp fun Γ' b e => by subst e; exact ⟨fun _ => h2, fun _ => rfl⟩)
theorem fm_if {α β : Type} (b : α → Bool) (g : α → β) : ∀ xs : List α, (xs.filterMap fun x => if b x = true then some (g x) else none) = (xs.filter b).map g
  | [] => rfl
  | x :: xs => by
    have ih := fm_if b g xs
    rw [List.filterMap_cons, List.filter_cons]
    cases h : b x with
    | true => simp only [if_true, List.map_cons]; rw [ih]
    | false => simp only [Bool.false_eq_true, if_false]; exact ih
end
/-! ### _law_may -/
def S_law_may (ds : List PyData) (R : Sv → Prop) : Prop := ∃ (S : Sheet) (ms : List Int), Ok S ∧ ds = [S.D, .tuple (ms.map PyData.int)] ∧ ∀ ks : List Int, (∀ k ∈ ks, 0 ≤ k ∧ k < S.turns.length) → ks.length ≤ S.turns.length → R (.o (Ol (ks.map PyData.int)))
theorem w_law_may {K : PySem.W.Frag} (ds : List PyData) (R : Sv → Prop) (hl : ds.length = 2) (h : S_law_may ds R) :
    Sw (t_law_may K) (ds.map Sv.d ++ List.replicate (N_law_may.length - 2) .no) (fun _ => R (.d .none)) (fun _ s => R s) (fun _ => False) (fun _ => False) := by
  obtain ⟨S, ms, ok, rfl, r⟩ := h
  have hsz := ok.size
  have htn := ok.tn
  unfold t_law_may
  show Sw _ [.d S.D, .d (.tuple (ms.map PyData.int)), .no, .no, .no, .no, .no] _ _ _ _
  refine sw_seq (sw_setO (ew_lst (ea_nil ⟨smallr rfl, _, rfl, lt_r rfl, ?_⟩)))
  refine sw_cut (fun Γ => ∃ (ks : List Int) (s3 s4 : Sv), (∀ k ∈ ks, 0 ≤ k ∧ k < S.turns.length) ∧ ks.length ≤ S.turns.length ∧ Γ = [.d S.D, .d (.tuple (ms.map PyData.int)), .o (Ol (ks.map PyData.int)), s3, s4, .no, .no])
    (sw_forJ (List.range S.turns.length) (fun j => .int (j : Int)) (fun j Γ => ∃ (ks : List Int) (s3 s4 : Sv), (∀ k ∈ ks, 0 ≤ k ∧ k < S.turns.length) ∧ ks.length ≤ j ∧ Γ = [.d S.D, .d (.tuple (ms.map PyData.int)), .o (Ol (ks.map PyData.int)), s3, s4, .no, .no]) ?_) ?_
  · refine iw_rng (ea_cons (ed_len (es_tup (ed_ixTc (ed_var rfl ⟨_, _, rfl, rfl, _, rfl, ea_nil ⟨S.turns.length, by simp, by omega, rfl, ⟨[], .no, .no, by simp, by simp, rfl⟩, fun j x Γ2 hj iv => ?_, fun Γ2 iv => ?_⟩⟩)))))
    · obtain ⟨ks, s3, s4, h1, h2, rfl⟩ := iv
      have hjk : j < S.turns.length := by have := (List.getElem?_eq_some_iff.mp hj).1; simpa using this
      have hx : x = j := by rw [List.getElem?_range hjk] at hj; cases hj; rfl
      subst hx
      refine sg_name (lt_r rfl) (sw_seq (sw_set (ed_new (ew_lcM (S.spots.zip ms) zpD (fun p => if decide ((x : Int) ∈ p.1.bh) = true then some (.int p.2) else none) mon2 tch2 ?_ (fun p hp => ?_) ⟨_, rfl, lt_r rfl, ?_⟩))))
      · exact iw_zip (ea_cons (ed_ixTc (ed_var rfl ⟨_, _, rfl, rfl, ea_cons (ed_var rfl (ea_nil ⟨_, _, .inr rfl, rfl, zipD_map _ _ _ _, small (m := 22) (by rw [List.length_zip]; omega)⟩))⟩)))
      · refine sg_tup ⟨_, rfl, rfl, sgs_cons (sg_name (lt_r rfl) (sgs_cons (sg_name (lt_r rfl) (sgs_nil ?_))))⟩
        refine et_test (ed_in (ed_var rfl (ed_ixTc (ed_var rfl ⟨_, _, rfl, rfl, _, .intT _ _, _, rfl, fun hb => ed_var rfl ⟨rfl, ?_⟩, fun hb => ⟨rfl, ?_⟩⟩))))
        · have hb' : decide ((x : Int) ∈ p.1.bh) = true := hb
          rw [hb']; rfl
        · have hb' : decide ((x : Int) ∈ p.1.bh) = false := hb
          rw [hb']; rfl
      · rw [fm_if (fun p : Spot × Int => decide ((x : Int) ∈ p.1.bh)) (fun p => PyData.int p.2)]
        have e : ((S.spots.zip ms).filter fun p => decide ((x : Int) ∈ p.1.bh)).map (fun p => PyData.int p.2) = (((S.spots.zip ms).filter fun p => decide ((x : Int) ∈ p.1.bh)).map (·.2)).map PyData.int := by rw [List.map_map]; rfl
        rw [e]
        refine sw_if (et_test (ed_in (ed_int (ed_var rfl ⟨_, .intL _ _, _, rfl, fun _ => ?_, fun _ => ?_⟩))))
        · refine sw_app ⟨_, _, rfl⟩ (ed_var rfl ⟨_, _, rfl, by rw [List.length_map, sizeLine_eq]; omega, ks ++ [(x : Int)], .d (.int (x : Int)), _, fun k hk => ?_, by simp; omega, by rw [List.map_append]; rfl⟩)
          rcases List.mem_append.mp hk with hk | hk
          · exact h1 k hk
          · have : k = x := by simpa using hk
            omega
        · exact sw_next ⟨ks, _, _, h1, by omega, rfl⟩
    · obtain ⟨ks, s3, s4, h1, h2, rfl⟩ := iv
      rw [List.length_range] at h2
      exact ⟨ks, s3, s4, h1, h2, rfl⟩
  · rintro Γ1 ⟨ks, s3, s4, h1, h2, rfl⟩
    exact sw_ret (ew_own rfl (r ks h1 h2))

/-! ### _law_behind -/
def Bit (xs : List Int) : Prop := ∀ x ∈ xs, x = 0 ∨ x = 1
theorem Bit.set {xs : List Int} (h : Bit xs) (i : Nat) {y : Int} (hy : y = 0 ∨ y = 1) : Bit (xs.set i y) := fun x hx => by
  rcases List.mem_or_eq_of_mem_set hx with hx | hx
  · exact h x hx
  · rw [hx]; exact hy
def S_law_behind (ds : List PyData) (R : Sv → Prop) : Prop := ∃ S s, ∃ k : Int, Ok S ∧ Sok S s ∧ 0 ≤ k ∧ k < S.turns.length ∧ ds = [S.D, sD s, .int k] ∧ ∀ s', Sok S s' → R (.d (sD s'))
theorem w_law_behind {K : PySem.W.Frag} (ds : List PyData) (R : Sv → Prop) (hl : ds.length = 3) (h : S_law_behind ds R) :
    Sw (t_law_behind K) (ds.map Sv.d ++ List.replicate (N_law_behind.length - 3) .no) (fun _ => R (.d .none)) (fun _ s => R s) (fun _ => False) (fun _ => False) := by
  obtain ⟨S, s, k, ok, so, hk0, hk1, rfl, r⟩ := h
  have hsz := ok.size
  unfold t_law_behind
  show Sw _ [.d S.D, .d (sD s), .d (.int k), .no, .no, .no, .no, .no] _ _ _ _
  refine sw_seq (sw_setO (ew_list (es_tup (ed_ixTc (ed_var rfl ⟨_, _, rfl, rfl, _, rfl, _, rfl, lt_r rfl, ?_⟩)))))
  have loop : ∀ (fld : Int) (y : Int) (sel : Spot → List Int), (y = 0 ∨ y = 1) → (∀ p : Spot, atI [PyData.tuple (p.bf.map .int), .tuple (p.bh.map .int), .int p.mark] fld = some (.tuple ((sel p).map .int))) → ∀ (ms : List Int) (s4 : Sv), ms.length = S.spots.length → Bit ms → ∀ (Rt : List Sv → Sv → Prop) (Bk Ct : List Sv → Prop),
      Sw (tFor (iRng1 (tCons (tCB (rLenS K) (tCons (tVar 3) tNil)) tNil)) (gName 4) (tIfS (tTest (tOp (rIn K false) (tVar 2) (tOp (rIxT K) (tOp (rIxT K) (tOp (rIxT K) (tVar 0) (tC (.int 2))) (tVar 4)) (tC (.int fld))))) (tAsg (tC (.int y)) (gSub (tVar 3) (tVar 4) L2.rSetL)) tNext)) [.d S.D, .d (sD s), .d (.int k), .o (Ol (ms.map .int)), s4, .no, .no, .no]
        (fun Γ => ∃ (ms : List Int) (s4 : Sv), ms.length = S.spots.length ∧ Bit ms ∧ Γ = [.d S.D, .d (sD s), .d (.int k), .o (Ol (ms.map .int)), s4, .no, .no, .no]) Rt Bk Ct := by
    intro fld y sel hy hsel ms s4 hml hbit Rt Bk Ct
    refine sw_forJ (List.range S.spots.length) (fun j => .int (j : Int)) (fun j Γ => ∃ (ms : List Int) (s4 : Sv), ms.length = S.spots.length ∧ Bit ms ∧ Γ = [.d S.D, .d (sD s), .d (.int k), .o (Ol (ms.map .int)), s4, .no, .no, .no]) ?_
    refine iw_rng (ea_cons (ed_len (es_own rfl (ea_nil ⟨S.spots.length, by simp [hml], by omega, rfl, ⟨ms, s4, hml, hbit, rfl⟩, fun j x Γ2 hj iv => ?_, fun Γ2 iv => iv⟩))))
    obtain ⟨ms, s4, h1, h2, rfl⟩ := iv
    have hjk : j < S.spots.length := by have := (List.getElem?_eq_some_iff.mp hj).1; simpa using this
    have hx : x = j := by rw [List.getElem?_range hjk] at hj; cases hj; rfl
    subst hx
    have hg : S.spots[x]? = some S.spots[x] := List.getElem?_eq_getElem hjk
    refine sg_name (lt_r rfl) (sw_if (et_test (ed_in (ed_var rfl (ed_ixTc (ed_ixTv rfl (ed_ixTc (ed_var rfl ⟨_, _, rfl, rfl, rfl, _, (S.spots[x]).D, rfl, atI_ofNat (by rw [List.getElem?_map, hg]; rfl), _, _, rfl, hsel _, _, .intT _ _, _, rfl, fun _ => ?_, fun _ => sw_next ⟨ms, _, h1, h2, rfl⟩⟩))))))))
    refine sw_sub (ed_int ⟨⟨_, rfl⟩, ed_var rfl ⟨_, _, x, _, rfl, rfl, ixN_nat (by rw [List.length_map, h1]; exact hjk), ms.set x y, .d (.int (x : Int)), by rw [List.length_set]; exact h1, h2.set x hy, ?_⟩⟩)
    rw [map_set_int]
    rfl
  refine sw_cut _ (loop 1 0 (·.bh) (.inl rfl) (fun p => rfl) s.1 .no so.ml so.m _ _ _) ?_
  rintro Γ1 ⟨m1, s4, h1, h2, rfl⟩
  refine sw_cut _ (loop 0 1 (·.bf) (.inr rfl) (fun p => rfl) m1 s4 h1 h2 _ _ _) ?_
  rintro Γ1 ⟨m2, s4, h3, h4, rfl⟩
  refine sw_seq (sw_set (ed_new (ew_lc1 S.wires Wire.D (fun x => .str x.name) mon_name tch1 ?_ (fun x hx => ?_) ⟨_, rfl, lt_r rfl, ?_⟩)))
  · exact iw_tup (ed_ixTc (ed_var rfl ⟨_, _, rfl, rfl, _, rfl, rfl, rfl, small (m := 22) (by omega)⟩))
  · exact sg_name (lt_r rfl) (ed_ixTc (ed_var rfl ⟨_, _, rfl, rfl, rfl, rfl⟩))
  · have en : (S.wires.map fun x => PyData.str x.name) = (S.wires.map (·.name)).map PyData.str := by rw [List.map_map]; rfl
    rw [en]
    refine sw_seq (sw_setO (ew_list (es_tup (ed_ixTc (ed_var rfl ⟨_, _, rfl, rfl, _, rfl, _, rfl, lt_r rfl, ?_⟩)))))
    have htm := turnAt_mem hk0 hk1
    obtain ⟨x, hx1, hx2⟩ := ok.nm _ htm
    have hin : (turnAt S k).name ∈ S.wires.map (·.name) := List.mem_map.mpr ⟨x, hx1, hx2⟩
    have hil : (S.wires.map (·.name)).idxOf (turnAt S k).name < s.2.length := by
      have := List.idxOf_lt_length_iff.mpr hin
      rw [List.length_map] at this
      rw [so.vl]; exact this
    refine sw_seq (sw_sub (ed_ixTc (ed_ixTv rfl (ed_ixTc (ed_var rfl ⟨_, _, rfl, rfl, rfl, _, _, rfl, turn_at hk0 hk1, _, _, rfl, rfl, ⟨_, rfl⟩, ed_indexS (ed_var rfl ⟨_, rfl, ed_ixTc (ed_ixTv rfl (ed_ixTc (ed_var rfl ⟨_, _, rfl, rfl, rfl, _, _, rfl, turn_at hk0 hk1, _, _, rfl, rfl, _, rfl, hin, _, _, _, _, rfl, rfl, ixN_nat (by rw [List.length_map]; exact hil), ?_⟩)))⟩)⟩)))))
    rw [map_set_int]
    refine sw_retd (ed_tup (ea_cons (ed_tupC (es_own rfl ⟨rfl, ea_cons (ed_tupC (es_own rfl ⟨rfl, ea_nil ⟨smallr rfl, ?_⟩⟩))⟩))))
    refine r (m2, s.2.set _ (turnAt S k).way) ⟨h3, by rw [List.length_set]; exact so.vl, h4, Bit.set so.v _ (ok.way _ htm)⟩
end G

/-! ## part 26 -/
set_option Elab.async false
set_option linter.all false
set_option maxRecDepth 100000
set_option maxHeartbeats 2000000
namespace G
open PySem PySem.Spec PyProof.Rows L2
/-! ### _law_faults -/
def Tags (fs : List Fault) : Prop := ∀ f ∈ fs, Tag f.1
theorem Tags.snoc {fs : List Fault} (h : Tags fs) {f : Fault} (hf : Tag f.1) : Tags (fs ++ [f]) := fun g hg => by
  rcases List.mem_append.mp hg with hg | hg
  · exact h g hg
  · have : g = f := by simpa using hg
    subst this; exact hf
theorem tag_c (j k : Int) : Tag (fC j k).1 := .inl rfl
theorem tag_t (j k : Int) : Tag (fT j k).1 := .inr (.inl rfl)
theorem tag_r (k : Int) : Tag (fR k).1 := .inr (.inr (.inl rfl))
theorem tag_w (k : Int) : Tag (fW k).1 := .inr (.inr (.inr (.inl rfl)))
theorem tag_e : Tag fE.1 := .inr (.inr (.inr (.inr rfl)))
theorem rep_end (b : Bool) : (List.replicate (if b = true then 1 else 0) [PyData.tuple [.str "end"]]).flatten = ((if b = true then [fE] else []) : List Fault).map Fault.D := by cases b <;> rfl
theorem ones_len {α : Type} (xs : List α) : (xs.map fun _ => PyData.int 1) = (xs.map fun _ => (1 : Int)).map PyData.int := by rw [List.map_map]; rfl
def isAsk (x : Wire) : Bool := decide (x.side = Str.ofString "ask")
def S_law_faults (ds : List PyData) (R : Sv → Prop) : Prop := ∃ S s, Ok S ∧ Sok S s ∧ ds = [S.D, sD s] ∧ ∀ fs : List Fault, Tags fs → R (.o (Ol (fs.map Fault.D)))
theorem w_law_faults {K : PySem.W.Frag} (ds : List PyData) (R : Sv → Prop) (hl : ds.length = 2) (h : S_law_faults ds R) :
    Sw (t_law_faults K (SpD 2 S_law_may)) (ds.map Sv.d ++ List.replicate (N_law_faults.length - 2) .no) (fun _ => R (.d .none)) (fun _ s => R s) (fun _ => False) (fun _ => False) := by
  obtain ⟨S, s, ok, so, rfl, r⟩ := h
  have hsz := ok.size
  have htn := ok.tn
  unfold t_law_faults
  show Sw _ [.d S.D, .d (sD s), .no, .no, .no, .no, .no, .no, .no, .no, .no, .no, .no, .no, .no, .no] _ _ _ _
  refine sw_seq (sw_asg (ed_var rfl (sg_tup ⟨_, rfl, rfl, sgs_cons (sg_name (lt_r rfl) (sgs_cons (sg_name (lt_r rfl) (sgs_nil ?_))))⟩)))
  refine sw_seq (sw_set (ed_new (ew_lcM S.wires Wire.D (fun x => if isAsk x = true then some (.str x.name) else none) mon_name tch1 ?_ (fun x hx => ?_) ⟨_, rfl, lt_r rfl, ?_⟩)))
  · exact iw_tup (ed_ixTc (ed_var rfl ⟨_, _, rfl, rfl, _, rfl, rfl, rfl, small (m := 22) (by omega)⟩))
  · refine sg_name (lt_r rfl) (et_test (ed_eq (ed_ixTc (ed_var rfl ⟨_, _, rfl, rfl, ed_str ⟨_, .str _ _, _, rfl, fun hb => ed_ixTc (ed_var rfl ⟨_, _, rfl, rfl, rfl, ?_⟩), fun hb => ⟨rfl, ?_⟩⟩⟩))))
    · have hb' : isAsk x = true := hb
      rw [hb']; rfl
    · have hb' : isAsk x = false := hb
      rw [hb']; rfl
  rw [fm_if isAsk (fun x => PyData.str x.name)]
  have en0 : ((S.wires.filter isAsk).map fun x => PyData.str x.name) = ((S.wires.filter isAsk).map (·.name)).map PyData.str := by rw [List.map_map]; rfl
  rw [en0]
  generalize (S.wires.filter isAsk).map (·.name) = asks
  refine sw_seq (sw_set (ed_new (ew_lc1 S.wires Wire.D (fun x => .str x.name) mon_name tch1 ?_ (fun x hx => ?_) ⟨_, rfl, lt_r rfl, ?_⟩)))
  · exact iw_tup (ed_ixTc (ed_var rfl ⟨_, _, rfl, rfl, _, rfl, rfl, rfl, small (m := 22) (by omega)⟩))
  · exact sg_name (lt_r rfl) (ed_ixTc (ed_var rfl ⟨_, _, rfl, rfl, rfl, rfl⟩))
  have en : (S.wires.map fun x => PyData.str x.name) = (S.wires.map (·.name)).map PyData.str := by rw [List.map_map]; rfl
  rw [en]
  refine sw_seq (sw_set (ed_ew (ew_call (ea_cons (ed_var rfl (ea_cons (ed_var rfl (ea_nil ⟨rfl, S, s.1, ok, rfl, fun ks hk1 hk2 => ⟨_, ⟨_, rfl, rfl⟩, lt_r rfl, ?_⟩⟩))))))))
  refine sw_seq (sw_setO (ew_rep (ed_new (ew_lst (ea_cons (ed_tup (ea_cons (ed_str (ea_nil ⟨smallr rfl, ea_nil ⟨smallr rfl, _, rfl, _, rfl, ?_⟩⟩)))))))))
  refine ed_intB (ea_cons (ed_eqD (ed_var rfl (ed_new (ew_lst (ea_nil ⟨smallr rfl, [], rfl, shaped_ints _, shaped_nil, ea_nil ⟨_, rfl, if PyData.eqv (.list (ks.map PyData.int)) (.list []) = true then 1 else 0, ?_, ?_, ?_, _, rfl, lt_r rfl, ?_⟩⟩))))))
  · split <;> rfl
  · rw [sizeLine_eq]; split <;> simp
  · split <;> decide
  rw [rep_end]
  have h0 : Tags (if PyData.eqv (.list (ks.map PyData.int)) (.list []) = true then [fE] else []) := by
    split
    · intro f hf
      have : f = fE := by simpa using hf
      subst this; exact tag_e
    · intro f hf; simp at hf
  have h0l : (if PyData.eqv (.list (ks.map PyData.int)) (.list []) = true then [fE] else []).length ≤ 1 := by split <;> simp
  generalize (if PyData.eqv (.list (ks.map PyData.int)) (.list []) = true then [fE] else []) = f0 at h0 h0l
  refine sw_cut (fun Γ => ∃ (fs : List Fault) (s8 s9 s10 s11 s12 : Sv), Tags fs ∧ fs.length ≤ 2000 ∧ Γ = [.d S.D, .d (sD s), .d (.tuple (s.1.map .int)), .d (.tuple (s.2.map .int)), .d (.list (asks.map .str)), .d (.list ((S.wires.map (·.name)).map .str)), .d (.list (ks.map .int)), .o (Ol (fs.map Fault.D)), s8, s9, s10, s11, s12, .no, .no, .no])
    (sw_forJ ks PyData.int (fun j Γ => ∃ (fs : List Fault) (s8 s9 s10 s11 s12 : Sv), Tags fs ∧ fs.length ≤ 1 + 50 * j ∧ Γ = [.d S.D, .d (sD s), .d (.tuple (s.1.map .int)), .d (.tuple (s.2.map .int)), .d (.list (asks.map .str)), .d (.list ((S.wires.map (·.name)).map .str)), .d (.list (ks.map .int)), .o (Ol (fs.map Fault.D)), s8, s9, s10, s11, s12, .no, .no, .no]) ?_) ?_
  · refine iw_list (ed_var rfl ⟨_, rfl, rfl, ⟨f0, .no, .no, .no, .no, .no, h0, h0l, rfl⟩, fun j k Γ2 hj iv => ?_, fun Γ2 iv => ?_⟩)
    · obtain ⟨fs, s8, s9, s10, s11, s12, g1, g2, rfl⟩ := iv
      have hjl := (List.getElem?_eq_some_iff.mp hj).1
      obtain ⟨hk0, hk1'⟩ := hk1 k (List.mem_of_getElem? hj)
      have htm := turnAt_mem hk0 hk1'
      obtain ⟨xw, hx1, hx2⟩ := ok.nm _ htm
      have hin : (turnAt S k).name ∈ S.wires.map (·.name) := List.mem_map.mpr ⟨xw, hx1, hx2⟩
      have hil : (S.wires.map (·.name)).idxOf (turnAt S k).name < s.2.length := by
        have := List.idxOf_lt_length_iff.mpr hin
        rw [List.length_map] at this
        rw [so.vl]; exact this
      refine sg_name (lt_r rfl) (sw_seq (sw_asg (ed_ixTv rfl (ed_ixTc (ed_var rfl ⟨_, _, rfl, rfl, rfl, _, _, rfl, turn_at hk0 hk1', ?_⟩)))))
      refine sg_tup ⟨_, rfl, rfl, sgs_cons (sg_name (lt_r rfl) (sgs_cons (sg_name (lt_r rfl) (sgs_nil ?_))))⟩
      -- crowd
      refine sw_cut (fun Γ => ∃ (fs : List Fault), Tags fs ∧ fs.length ≤ 2 + 50 * j ∧ Γ = [.d S.D, .d (sD s), .d (.tuple (s.1.map .int)), .d (.tuple (s.2.map .int)), .d (.list (asks.map .str)), .d (.list ((S.wires.map (·.name)).map .str)), .d (.list (ks.map .int)), .o (Ol (fs.map Fault.D)), .d (.int k), .d (.str (turnAt S k).name), .d (.int (turnAt S k).way), s11, s12, .no, .no, .no]) (sw_ifA ?_ ?_ ?_) ?_
      · refine et_test (ed_neD (ed_new (ew_lcM (S.spots.zip s.1) zpD (fun p => if (decide (p.2 = 1) && (decide (k ∈ p.1.bf) && !decide (k ∈ p.1.bh))) = true then some (.int 1) else none) mon2 tch2 ?_ (fun p hp => ?_) ?_)))
        · exact iw_zip (ea_cons (ed_ixTc (ed_var rfl ⟨_, _, rfl, rfl, ea_cons (ed_var rfl (ea_nil ⟨_, _, .inr rfl, rfl, zipD_map _ _ _ _, small (m := 22) (by rw [List.length_zip]; omega)⟩))⟩)))
        · refine sg_tup ⟨_, rfl, rfl, sgs_cons (sg_name (lt_r rfl) (sgs_cons (sg_name (lt_r rfl) (sgs_nil ?_))))⟩
          refine et_is (decide (p.2 = 1) && (decide (k ∈ p.1.bf) && !decide (k ∈ p.1.bh))) (et_andV _ _ ?_ fun _ => et_andV _ _ ?_ fun _ => ?_) ⟨fun hb => ed_int ⟨rfl, ?_⟩, fun hb => ⟨rfl, ?_⟩⟩
          · exact et_test (ed_eq (ed_var rfl (ed_int ⟨_, .int _ _, _, rfl, rfl, rfl⟩)))
          · exact et_test (ed_in (ed_var rfl (ed_ixTc (ed_var rfl ⟨_, _, rfl, rfl, _, .intT _ _, _, rfl, rfl, rfl⟩))))
          · exact et_test (ed_in (ed_var rfl (ed_ixTc (ed_var rfl ⟨_, _, rfl, rfl, _, .intT _ _, _, rfl, rfl, rfl⟩))))
          · rw [hb]; rfl
          · rw [hb]; rfl
        · refine ⟨_, rfl, ed_new (ew_lst (ea_nil ⟨smallr rfl, [], rfl, ?_, shaped_nil, _, rfl, rfl⟩))⟩
          rw [fm_if (fun p : Spot × Int => decide (p.2 = 1) && (decide (k ∈ p.1.bf) && !decide (k ∈ p.1.bh))) (fun _ => PyData.int 1), ones_len]
          exact shaped_ints _
      · refine sw_app ⟨_, _, rfl⟩ (ed_tup (ea_cons (ed_str (ea_cons (ed_var rfl (ea_nil ⟨smallr rfl, _, _, rfl, by rw [List.length_map, sizeLine_eq]; omega, fs ++ [fR k], g1.snoc (tag_r k), by simp; omega, by rw [List.map_append]; rfl⟩))))))
      · exact sw_next ⟨fs, g1, by omega, rfl⟩
      rintro Γ3 ⟨fs, g1, g2, rfl⟩
      -- way
      refine sw_cut (fun Γ => ∃ (fs : List Fault), Tags fs ∧ fs.length ≤ 3 + 50 * j ∧ Γ = [.d S.D, .d (sD s), .d (.tuple (s.1.map .int)), .d (.tuple (s.2.map .int)), .d (.list (asks.map .str)), .d (.list ((S.wires.map (·.name)).map .str)), .d (.list (ks.map .int)), .o (Ol (fs.map Fault.D)), .d (.int k), .d (.str (turnAt S k).name), .d (.int (turnAt S k).way), s11, s12, .no, .no, .no]) (sw_ifA ?_ ?_ ?_) ?_
      · refine et_test (ed_eq (ed_ixT (ed_var rfl ⟨_, rfl, ed_indexS (ed_var rfl ⟨_, rfl, ed_var rfl ⟨_, rfl, hin, _, .int (s.2[(S.wires.map (·.name)).idxOf (turnAt S k).name]'hil), rfl, atI_ofNat (by rw [List.getElem?_map, List.getElem?_eq_getElem hil]; rfl), ed_var rfl ⟨_, .int _ _, _, rfl, rfl⟩⟩⟩)⟩)))
      · refine sw_app ⟨_, _, rfl⟩ (ed_tup (ea_cons (ed_str (ea_cons (ed_var rfl (ea_nil ⟨smallr rfl, _, _, rfl, by rw [List.length_map, sizeLine_eq]; omega, fs ++ [fW k], g1.snoc (tag_w k), by simp; omega, by rw [List.map_append]; rfl⟩))))))
      · exact sw_next ⟨fs, g1, by omega, rfl⟩
      rintro Γ3 ⟨fs, g1, g2, rfl⟩
      -- the pairs
      refine sw_forJ (ks.filter fun x => decide (x < k)) PyData.int (fun i Γ => ∃ (fs : List Fault) (s11 s12 : Sv), Tags fs ∧ fs.length ≤ 3 + 50 * j + 2 * i ∧ Γ = [.d S.D, .d (sD s), .d (.tuple (s.1.map .int)), .d (.tuple (s.2.map .int)), .d (.list (asks.map .str)), .d (.list ((S.wires.map (·.name)).map .str)), .d (.list (ks.map .int)), .o (Ol (fs.map Fault.D)), .d (.int k), .d (.str (turnAt S k).name), .d (.int (turnAt S k).way), s11, s12, .no, .no, .no]) ?_
      refine iw_list (ed_new (ew_lcM ks PyData.int (fun x => if decide (x < k) = true then some (.int x) else none) mon_name tch1 (iw_list (ed_var rfl ⟨_, rfl, rfl, rfl, small (m := 20) (by omega)⟩)) (fun x hx => ?_) ⟨_, rfl, _, rfl, ?_, ⟨fs, _, s12, g1, by omega, rfl⟩, fun i y Γ4 hi iv => ?_, fun Γ4 iv => ?_⟩))
      · refine sg_name (lt_r rfl) (et_test (ed_B0 (ed_var rfl ⟨_, rfl, ed_var rfl ⟨_, rfl, _, rfl, fun hb => ed_var rfl ⟨rfl, ?_⟩, fun hb => ⟨rfl, ?_⟩⟩⟩)))
        · rw [hb]; rfl
        · rw [hb]; rfl
      · exact fm_if _ _ _
      · obtain ⟨fs, s11, s12, g1, g2, rfl⟩ := iv
        have hym := List.mem_filter.mp (List.mem_of_getElem? hi)
        obtain ⟨hy0, hy1⟩ := hk1 y hym.1
        have hil2 : i < 20 := by
          have := (List.getElem?_eq_some_iff.mp hi).1
          have h5 := List.length_filter_le (fun x => decide (x < k)) ks
          omega
        refine sg_name (lt_r rfl) (sw_seq (sw_set (ed_new (ew_lcM S.spots Spot.D (fun p => if (decide (y ∈ p.bh) && decide (k ∈ p.bh)) = true then some (.int 1) else none) mon_name tch1 ?_ (fun p hp => ?_) ⟨_, rfl, lt_r rfl, ?_⟩))))
        · exact iw_tup (ed_ixTc (ed_var rfl ⟨_, _, rfl, rfl, _, rfl, rfl, rfl, small (m := 22) (by omega)⟩))
        · refine sg_name (lt_r rfl) (et_is (decide (y ∈ p.bh) && decide (k ∈ p.bh)) (et_andV _ _ ?_ fun _ => ?_) ⟨fun hb => ed_int ⟨rfl, ?_⟩, fun hb => ⟨rfl, ?_⟩⟩)
          · exact et_test (ed_in (ed_var rfl (ed_ixTc (ed_var rfl ⟨_, _, rfl, rfl, _, .intT _ _, _, rfl, rfl, rfl⟩))))
          · exact et_test (ed_in (ed_var rfl (ed_ixTc (ed_var rfl ⟨_, _, rfl, rfl, _, .intT _ _, _, rfl, rfl, rfl⟩))))
          · rw [hb]; rfl
          · rw [hb]; rfl
        rw [fm_if (fun p : Spot => decide (y ∈ p.bh) && decide (k ∈ p.bh)) (fun _ => PyData.int 1), ones_len]
        refine sw_cut (fun Γ => ∃ (fs : List Fault) (s12 : Sv), Tags fs ∧ fs.length ≤ 4 + 50 * j + 2 * i ∧ Γ = [.d S.D, .d (sD s), .d (.tuple (s.1.map .int)), .d (.tuple (s.2.map .int)), .d (.list (asks.map .str)), .d (.list ((S.wires.map (·.name)).map .str)), .d (.list (ks.map .int)), .o (Ol (fs.map Fault.D)), .d (.int k), .d (.str (turnAt S k).name), .d (.int (turnAt S k).way), .d (.int y), s12, .no, .no, .no]) (sw_ifA (et_andA ?_ (et_orA ?_ ?_)) ?_ ?_) ?_
        · exact et_test (ed_neD (ed_var rfl (ed_new (ew_lst (ea_nil ⟨smallr rfl, [], rfl, shaped_ints _, shaped_nil, _, rfl, rfl⟩)))))
        · exact et_test (ed_in (ed_var rfl (ed_var rfl ⟨_, .strL _ _, _, rfl, rfl⟩)))
        · exact et_test (ed_in (ed_ixTc (ed_ixTv rfl (ed_ixTc (ed_var rfl ⟨_, _, rfl, rfl, rfl, _, _, rfl, turn_at hy0 hy1, _, _, rfl, rfl, ed_var rfl ⟨_, .strL _ _, _, rfl, rfl⟩⟩)))))
        · exact sw_app ⟨_, _, rfl⟩ (ed_tup (ea_cons (ed_str (ea_cons (ed_var rfl (ea_cons (ed_var rfl (ea_nil ⟨smallr rfl, _, _, rfl, by rw [List.length_map, sizeLine_eq]; omega, fs ++ [fC y k], _, g1.snoc (tag_c y k), by simp; omega, by rw [List.map_append]; rfl⟩))))))))
        · exact sw_next ⟨fs, _, g1, by omega, rfl⟩
        rintro Γ5 ⟨fs, s12, g1, g2, rfl⟩
        refine sw_ifA ?_ ?_ ?_
        · exact et_test (ed_eq (ed_ixTc (ed_ixTv rfl (ed_ixTc (ed_var rfl ⟨_, _, rfl, rfl, rfl, _, _, rfl, turn_at hy0 hy1, _, _, rfl, rfl, ed_var rfl ⟨_, .str _ _, _, rfl, rfl⟩⟩)))))
        · exact sw_app ⟨_, _, rfl⟩ (ed_tup (ea_cons (ed_str (ea_cons (ed_var rfl (ea_cons (ed_var rfl (ea_nil ⟨smallr rfl, _, _, rfl, by rw [List.length_map, sizeLine_eq]; omega, fs ++ [fT y k], .d (.int y), s12, g1.snoc (tag_t y k), by simp; omega, by rw [List.map_append]; rfl⟩))))))))
        · exact sw_next ⟨fs, .d (.int y), s12, g1, by omega, rfl⟩
      · obtain ⟨fs, s11, s12, g1, g2, rfl⟩ := iv
        have h5 := List.length_filter_le (fun x => decide (x < k)) ks
        exact ⟨fs, _, _, _, s11, s12, g1, by omega, rfl⟩
    · obtain ⟨fs, s8, s9, s10, s11, s12, g1, g2, rfl⟩ := iv
      exact ⟨fs, s8, s9, s10, s11, s12, g1, by omega, rfl⟩
  · rintro Γ1 ⟨fs, s8, s9, s10, s11, s12, g1, g2, rfl⟩
    refine sw_ret (ew_sorted (es_own rfl ⟨fun d hd d' hd' => ?_, .inl fun d hd => ?_, by rw [List.length_map, sizeLine_eq]; omega, fun d hd => ?_, ?_⟩))
    · obtain ⟨f, _, rfl⟩ := List.mem_map.mp hd
      obtain ⟨g, _, rfl⟩ := List.mem_map.mp hd'
      exact alike_fault f g
    · obtain ⟨f, _, rfl⟩ := List.mem_map.mp hd
      exact ⟨_, _, rfl⟩
    · obtain ⟨f, _, rfl⟩ := List.mem_map.mp hd
      exact depth_fault f
    · obtain ⟨ys, e1, e2⟩ := sort_code Fault.D fs
      rw [e1]
      exact r ys fun f hf => g1 f (e2.mem_iff.mp hf)
end G

/-! ## part 27 -/
set_option Elab.async false
set_option linter.all false
set_option maxRecDepth 100000
set_option maxHeartbeats 2000000
namespace G
open PySem PySem.Spec PyProof.Rows L2
/-! ### _law_stands -/
theorem lay_stand (s : Stand) : PyData.canLay0 (sD s) = true := by simp [sD, PyData.canLay0, PyData.canLayAll0, lay_ints]
theorem lay_stands : ∀ ws : List Stand, PyData.canLayAll0 (ws.map sD) = true
  | [] => by simp [PyData.canLayAll0]
  | s :: ws => by
    have h2 := lay_stands ws
    have h1 := lay_stand s
    simp only [List.map_cons, PyData.canLayAll0, h1, h2, Bool.and_self]
theorem depth_stands : ∀ ws : List Stand, PyData.depthAll (ws.map sD) ≤ 2
  | [] => by simp [PyData.depthAll]
  | s :: ws => by
    have h2 := depth_stands ws
    have h1 : (sD s).depth = 2 := by simp [sD, PyData.depth, PyData.depthAll, depth_ints]
    show max (sD s).depth (PyData.depthAll (ws.map sD)) ≤ 2
    omega
theorem shaped_stands (ws : List Stand) : SeqAt.shaped (.list (ws.map sD)) = true := by
  have := depth_stands ws
  simp [SeqAt.shaped, PyData.canLay0, lay_stands, PyData.depth]
  omega
structure Bst (S : Sheet) (ws : List Stand) (kvs : List (Stand × PyData)) : Prop where
  so : ∀ s ∈ ws, Sok S s ∧ s ∈ kvs.map (·.1)
  fs : ∀ kv ∈ kvs, ∃ fs : List Fault, Tags fs ∧ kv.2 = .list (fs.map Fault.D)
def S_law_stands (P : Program) (w : World) (ds : List PyData) (R : Sv → Prop) : Prop := ∃ S, Ok S ∧ ds = [S.D, .int 64] ∧ R (.d .none) ∧ ∀ kvs, R (.o (On P w kvs))
theorem w_law_stands {P : Program} {w : World} {K : PySem.W.Frag} (ds : List PyData) (R : Sv → Prop) (hl : ds.length = 2) (h : S_law_stands P w ds R) :
    Sw (t_law_stands P w K (SpD 2 S_law_faults) (SpD 2 S_law_may) (SpD 3 S_law_behind)) (ds.map Sv.d ++ List.replicate (N_law_stands.length - 2) .no) (fun _ => R (.d .none)) (fun _ s => R s) (fun _ => False) (fun _ => False) := by
  obtain ⟨S, ok, rfl, r0, r1⟩ := h
  have hz := ok.size
  have htn := ok.tn
  unfold t_law_stands
  show Sw _ [.d S.D, .d (.int 64), .no, .no, .no, .no, .no, .no, .no, .no] _ _ _ _
  refine sw_seq (sw_set (ed_tup (ea_cons (ed_tupC (es_new (ew_lc1 S.spots Spot.D (fun p => .int p.mark) mon_name tch1 ?_ ?_ ?_))))))
  · refine iw_tup (ed_ixTc (ed_var rfl ⟨_, _, rfl, rfl, _, rfl, rfl, rfl, small (m := 22) (by omega)⟩))
  · refine fun p hp => sg_name (lt_r rfl) (ed_ixTc (ed_var rfl ⟨_, _, rfl, rfl, rfl, rfl⟩))
  refine ⟨_, rfl, rfl, ea_cons (ed_tupC (es_new (ew_lc1 S.wires Wire.D (fun p => .int p.val) mon_name tch1 ?_ ?_ ?_)))⟩
  · refine iw_tup (ed_ixTc (ed_var rfl ⟨_, _, rfl, rfl, _, rfl, rfl, rfl, small (m := 22) (by omega)⟩))
  · refine fun p hp => sg_name (lt_r rfl) (ed_ixTc (ed_var rfl ⟨_, _, rfl, rfl, rfl, rfl⟩))
  have e : sD (first S) = .tuple [.tuple (S.spots.map fun p => .int p.mark), .tuple (S.wires.map fun p => .int p.val)] := by
    unfold sD first
    simp
  refine ⟨_, rfl, rfl, ea_nil ⟨smallr rfl, lt_r rfl, ?_⟩⟩
  rw [← e]
  have so0 := Sok.first ok
  refine sw_seq (sw_setO (ew_dispN (ed_var rfl ⟨first S, rfl, ed_ew (ew_call (ea_cons (ed_var rfl (ea_cons (ed_var rfl (ea_nil ⟨rfl, S, first S, ok, so0, rfl, fun f0 hf0 => ⟨_, ⟨_, rfl, rfl⟩, _, rfl, lt_r rfl, ?_⟩⟩))))))⟩)))
  refine sw_seq (sw_setO (ew_lst (ea_cons (ed_var rfl (ea_nil ⟨smallr rfl, _, rfl, lt_r rfl, ?_⟩)))))
  refine sw_cut (fun Γ => ∃ (ws : List Stand) (kvs : List (Stand × PyData)) (s5 s6 s7 : Sv), Γ = [.d S.D, .d (.int 64), .d (sD (first S)), .o (On P w kvs), .o (Ol (ws.map sD)), s5, s6, s7, .no, .no])
    (sw_while (fun m Γ => ∃ (ws : List Stand) (kvs : List (Stand × PyData)) (s5 s6 s7 : Sv), m + kvs.length = 65 + ws.length ∧ ws.length ≤ kvs.length ∧ kvs.length ≤ 64 ∧ Bst S ws kvs ∧ Γ = [.d S.D, .d (.int 64), .d (sD (first S)), .o (On P w kvs), .o (Ol (ws.map sD)), s5, s6, s7, .no, .no]) 65 ?_ ?_) ?_
  · refine ⟨[first S], [(first S, .list (f0.map Fault.D))], .no, .no, .no, rfl, by simp, by simp, ⟨fun s hs => ?_, fun kv hkv => ?_⟩, rfl⟩
    · have : s = first S := by simpa using hs
      subst this
      exact ⟨so0, by simp⟩
    · have : kv = (first S, .list (f0.map Fault.D)) := by simpa using hkv
      subst this
      exact ⟨f0, hf0, rfl⟩
  · rintro m Γ2 ⟨ws, kvs, s5, s6, s7, hm, hwk, hk64, bst, rfl⟩
    refine et_test (ed_neOwn rfl (shaped_stands ws) ⟨_, rfl, fun hb => ?_, fun hb => ⟨ws, kvs, s5, s6, s7, rfl⟩⟩)
    have hne : ws ≠ [] := fun e => by rw [e] at hb; simp at hb
    obtain ⟨ws0, s, rfl⟩ : ∃ ws0 s, ws = ws0 ++ [s] := ⟨ws.dropLast, ws.getLast hne, (List.dropLast_concat_getLast hne).symm⟩
    rw [List.length_append, List.length_singleton] at hm hwk
    obtain ⟨so, hsk⟩ := bst.so s (by simp)
    have bst0 : Bst S ws0 kvs := ⟨fun t ht => bst.so t (List.mem_append_left _ ht), bst.fs⟩
    have em : (ws0 ++ [s]).map sD = ws0.map sD ++ [sD s] := by rw [List.map_append]; rfl
    rw [em]
    refine sw_seq (sw_set (ed_pop rfl ⟨lt_r rfl, ?_⟩))
    refine sw_cut (fun Γ => ∃ (ws1 : List Stand) (kvs1 : List (Stand × PyData)) (s6 s7 : Sv), ws1.length + kvs.length = ws0.length + kvs1.length ∧ kvs1.length ≤ kvs.length + 20 ∧ Bst S ws1 kvs1 ∧ Γ = [.d S.D, .d (.int 64), .d (sD (first S)), .o (On P w kvs1), .o (Ol (ws1.map sD)), .d (sD s), s6, s7, .no, .no]) ?_ ?_
    · refine sw_if (et_test (ed_eqD (ed_getN ⟨_, rfl⟩ (ed_var rfl ⟨kvs, s, rfl, rfl, hsk, fun d hd => ?_⟩))))
      obtain ⟨fs, hfs, hd'⟩ := bst.fs _ hd
      have hd2 : d = .list (fs.map Fault.D) := hd'
      rw [hd2]
      refine ed_new (ew_lst (ea_nil ⟨smallr rfl, [], rfl, shaped_faults hfs, shaped_nil, _, rfl, fun _ => ?_, fun _ => sw_next ⟨ws0, kvs, s6, s7, rfl, by omega, bst0, rfl⟩⟩))
      refine sw_forLX PyData.int (iw_list (ed_ew (ew_call (ea_cons (ed_var rfl (ea_cons (ed_ixTc (ed_var rfl ⟨_, _, rfl, rfl, ea_nil ⟨rfl, S, s.1, ok, rfl, fun ks hk1 hk2 => ⟨_, ⟨_, rfl, rfl⟩, _, rfl, ks, fun q Γ => ∃ (ws1 : List Stand) (kvs1 : List (Stand × PyData)) (s6 s7 : Sv), ws1.length + kvs.length = ws0.length + kvs1.length ∧ kvs1.length ≤ kvs.length + q.length ∧ Bst S ws1 kvs1 ∧ Γ = [.d S.D, .d (.int 64), .d (sD (first S)), .o (On P w kvs1), .o (Ol (ws1.map sD)), .d (sD s), s6, s7, .no, .no], rfl, ⟨ws0, kvs, s6, s7, rfl, by omega, bst0, rfl⟩, fun q k q2 Γ3 e2 iv => ?_, fun Γ3 iv => ?_⟩⟩⟩))))))))
      · obtain ⟨ws1, kvs1, s6, s7, g1, g2, b1, rfl⟩ := iv
        have hkm : k ∈ ks := by rw [e2]; simp
        have hql : q.length < ks.length := by
          have := congrArg List.length e2
          simp at this
          omega
        obtain ⟨hk0, hk1'⟩ := hk1 k hkm
        refine sg_name (lt_r rfl) (sw_seq (sw_set (ed_ew (ew_call (ea_cons (ed_var rfl (ea_cons (ed_var rfl (ea_cons (ed_var rfl (ea_nil ⟨rfl, S, s, k, ok, so, hk0, hk1', rfl, fun t st => ⟨_, rfl, lt_r rfl, ?_⟩⟩)))))))))))
        refine sw_if (et_test (ed_notInN (s := s) (ed_var rfl ⟨t, kvs1, rfl, rfl, _, rfl, fun hb => ?_, fun hb => sw_next ⟨ws1, kvs1, .d (.int k), .d (sD t), g1, by simp; omega, b1, rfl⟩⟩)))
        have hnk : t ∉ kvs1.map (·.1) := by simpa using hb
        refine sw_seq (sw_setN (ed_ew (ew_call (ea_cons (ed_var rfl (ea_cons (ed_var rfl (ea_nil ⟨rfl, S, t, ok, st, rfl, fun f1 hf1 => ⟨_, ⟨_, rfl, rfl⟩, ⟨_, rfl⟩, ed_var rfl ⟨kvs1, t, rfl, rfl, hnk, by rw [sizeLine_eq]; omega, ?_⟩⟩⟩))))))))
        refine sw_app ⟨_, _, rfl⟩ (ed_var rfl ⟨_, _, rfl, by rw [List.length_map, sizeLine_eq]; omega, ws1 ++ [t], kvs1 ++ [(t, .list (f1.map Fault.D))], .d (.int k), .d (sD t), by simp; omega, by simp; omega, ⟨fun x hx => ?_, fun kv hkv => ?_⟩, by rw [List.map_append]; rfl⟩)
        · rcases List.mem_append.mp hx with hx | hx
          · obtain ⟨h1, h2⟩ := b1.so x hx
            exact ⟨h1, by rw [List.map_append]; exact List.mem_append_left _ h2⟩
          · have : x = t := by simpa using hx
            subst this
            exact ⟨st, by simp⟩
        · rcases List.mem_append.mp hkv with hkv | hkv
          · exact b1.fs kv hkv
          · have : kv = (t, .list (f1.map Fault.D)) := by simpa using hkv
            subst this
            exact ⟨f1, hf1, rfl⟩
      · obtain ⟨ws1, kvs1, s6, s7, g1, g2, b1, rfl⟩ := iv
        exact ⟨ws1, kvs1, s6, s7, g1, by omega, b1, rfl⟩
    · rintro Γ3 ⟨ws1, kvs1, s6, s7, g1, g2, b1, rfl⟩
      refine sw_if (et_test (ed_B0 (ed_lenN rfl (by rw [sizeLine_eq]; omega) ⟨_, rfl, ed_var rfl ⟨_, rfl, _, rfl, fun hb => ?_, fun hb => ?_⟩⟩)))
      · exact sw_retd (ed_non r0)
      · have hle : ¬ (64 : Int) < (kvs1.length : Int) := by simpa using hb
        exact sw_next ⟨m - 1, by omega, ws1, kvs1, _, s6, s7, by omega, by omega, by omega, b1, rfl⟩
  · rintro Γ1 ⟨ws, kvs, s5, s6, s7, rfl⟩
    exact sw_ret (ew_own rfl (r1 kvs))

/-! ### _law_with -/
def S_law_with (ds : List PyData) (R : Sv → Prop) : Prop := ∃ (xs : List PyData) (i : Nat) (x : PyData), i < xs.length ∧ xs.length ≤ 1000 ∧ ds = [.tuple xs, .int i, x] ∧ R (.d (.tuple (xs.set i x)))
theorem w_law_with {K : PySem.W.Frag} (ds : List PyData) (R : Sv → Prop) (hl : ds.length = 3) (h : S_law_with ds R) :
    Sw (t_law_with K) (ds.map Sv.d ++ List.replicate (N_law_with.length - 3) .no) (fun _ => R (.d .none)) (fun _ s => R s) (fun _ => False) (fun _ => False) := by
  obtain ⟨xs, i, x, hi, hx, rfl, r⟩ := h
  unfold t_law_with
  show Sw _ [.d (.tuple xs), .d (.int i), .d x] _ _ _ _
  refine sw_retd (ed_catT (ed_catT (ed_slT (ed_var rfl ⟨_, rfl, eo_none (eo_some (ed_var rfl ⟨_, rfl, _, rfl, ed_tup (ea_cons (ed_var rfl (ea_nil ⟨smallr rfl, _, rfl, ?_, _, rfl, ed_slT (ed_var rfl ⟨_, rfl, eo_some (ed_I0 (ed_var rfl ⟨_, rfl, ed_int ⟨_, rfl, _, rfl, eo_none ⟨_, rfl, ?_, ?_⟩⟩⟩))⟩)⟩)))⟩))⟩))))
  · rw [cut_to (by omega), List.length_take, sizeLine_eq]
    simp; omega
  · have e : cutD xs (some ((i : Int) + 1)) none = xs.drop (i + 1) := cut_from (j := i + 1) (by omega)
    rw [cut_to (by omega), e, List.length_append, List.length_take, List.length_drop, sizeLine_eq]
    simp; omega
  · have e : cutD xs (some ((i : Int) + 1)) none = xs.drop (i + 1) := cut_from (j := i + 1) (by omega)
    rw [cut_to (by omega), e]
    rw [List.set_eq_take_append_cons_drop, if_pos hi] at r
    simpa using r
end G

/-! ## part 28 -/
set_option Elab.async false
set_option linter.all false
set_option maxRecDepth 100000
set_option maxHeartbeats 400000
namespace G
open PySem PySem.Spec PyProof.Rows L2
/-! ### _law_spoilt -/
structure Hs (S : Sheet) : Prop where
  ok : Ok S
  sz : S.spots.length + S.wires.length ≤ 21
  t1 : 1 ≤ S.turns.length
structure SpL (n : Nat) (p : Spot) : Prop where
  bf : ∀ k ∈ p.bf, 0 ≤ k ∧ k < n
  bh : ∀ k ∈ p.bh, 0 ≤ k ∧ k < n
  bfl : p.bf.length ≤ 20
  bhl : p.bh.length ≤ 20
  mark : p.mark = 0 ∨ p.mark = 1
theorem Hs.mk' {ws : List Wire} {ts : List Trn} {sp : List Spot} (hw : ∀ x ∈ ws, Wok x) (ht : ∀ t ∈ ts, TOk (ws.map (·.name)) t) (hs : ∀ p ∈ sp, SpL ts.length p) (hz : sp.length + ws.length ≤ 21) (hz2 : ts.length ≤ 20) (h1 : 1 ≤ sp.length) (h2 : 1 ≤ ts.length) : Hs ⟨ws, ts, sp⟩ := by
  refine ⟨⟨fun p hp => (hs p hp).bf, fun p hp => (hs p hp).bh, fun p hp => (hs p hp).bfl, fun p hp => (hs p hp).bhl, fun t hx => ?_, hw, fun t hx => (ht t hx).2, fun p hp => (hs p hp).mark, hz2, ?_, h1⟩, hz, h2⟩
  · obtain ⟨x, hx1, hx2⟩ := List.mem_map.mp (ht t hx).1
    exact ⟨x, hx1, hx2⟩
  · show sp.length + ws.length ≤ 22; omega
theorem Gs.hs {S : Sheet} (g : Gs S) : Hs S := ⟨g.ok, by have := g.sz; omega, g.t1⟩
theorem Gs.tok {S : Sheet} (g : Gs S) : ∀ t ∈ S.turns, TOk (S.wires.map (·.name)) t := fun t ht => by
  obtain ⟨x, h1, h2⟩ := g.ok.nm t ht
  exact ⟨List.mem_map.mpr ⟨x, h1, h2⟩, g.ok.way t ht⟩
theorem Gs.spl {S : Sheet} (g : Gs S) : ∀ p ∈ S.spots, SpL S.turns.length p := fun p hp => ⟨g.ok.bf p hp, g.ok.bh p hp, g.ok.bfl p hp, g.ok.bhl p hp, g.ok.mark p hp⟩
theorem all_set {α : Type} {P : α → Prop} {xs : List α} (h : ∀ x ∈ xs, P x) (i : Nat) {y : α} (hy : P y) : ∀ x ∈ xs.set i y, P x := fun x hx => by
  rcases List.mem_or_eq_of_mem_set hx with hx | hx
  · exact h x hx
  · rw [hx]; exact hy
theorem all_snoc {α : Type} {P : α → Prop} {xs : List α} (h : ∀ x ∈ xs, P x) {y : α} (hy : P y) : ∀ x ∈ xs ++ [y], P x := fun x hx => by
  rcases List.mem_append.mp hx with hx | hx
  · exact h x hx
  · have : x = y := by simpa using hx
    rw [this]; exact hy
theorem flip01 {x : Int} (h : x = 0 ∨ x = 1) : 1 - x = 0 ∨ 1 - x = 1 := by omega
def S_law_spoilt (n : Nat) (ds : List PyData) (R : Nat → Sv → Prop) : Prop := n ≤ 50000 ∧ ∃ S : Sheet, Gs S ∧ ds = [S.D] ∧ ∀ (m : Nat) (S' : Sheet), m ≤ n + 20 → Hs S' → R m (.d S'.D)
theorem w_law_spoilt {w : World} {K : PySem.W.Frag} (p : Addr) (n : Nat) (ds : List PyData) (R : Nat → Sv → Prop) (hl : ds.length = 1) (h : S_law_spoilt n ds R) :
    Sw (t_law_spoilt w K (SpP 1 S_law_draw) (SpD 3 S_law_with)) (.o (Op p n) :: (ds.map Sv.d ++ List.replicate (N_law_spoilt.length - 2) .no)) (fun Γ' => ∃ m', Γ'[0]? = some (.o (Op p m')) ∧ R m' (.d .none)) (fun Γ' s => ∃ m', Γ'[0]? = some (.o (Op p m')) ∧ R m' s) (fun _ => False) (fun _ => False) := by
  obtain ⟨hn, S, g, rfl, r⟩ := h
  have hsz := g.sz
  have htn := g.tn
  have hs2 := g.s2
  have ht1 := g.t1
  have hw1 := g.w1
  have hspl := g.spl
  have htok := g.tok
  have hwok : ∀ x ∈ S.wires, Wok x := g.ok.val
  unfold t_law_spoilt
  show Sw _ [.o (Op p n), .d S.D, .no, .no, .no, .no, .no, .no, .no, .no, .no, .no, .no, .no, .no, .no] _ _ _ _
  refine sw_seq (sw_set (ed_ew (ew_callP rfl (ea_cons (ed_int (ea_nil ⟨n, rfl, rfl, by omega, 10, by decide, by decide, rfl, fun way hway => ⟨_, rfl, lt_r rfl, ?_⟩⟩))))))
  refine sw_seq (sw_asg (ed_var rfl (sg_tup ⟨_, rfl, rfl, sgs_cons (sg_name (lt_r rfl) (sgs_cons (sg_name (lt_r rfl) (sgs_cons (sg_name (lt_r rfl) (sgs_nil ?_))))))⟩)))
  refine sw_seq (sw_set (ed_ew (ew_callP rfl (ea_cons (ed_len (es_tup (ed_var rfl ⟨_, rfl, ea_nil ⟨n + 1, rfl, rfl, by omega, S.spots.length, by omega, by omega, by simp, fun i hi => ⟨_, rfl, lt_r rfl, ?_⟩⟩⟩)))))))
  refine sw_seq (sw_set (ed_ew (ew_callP rfl (ea_cons (ed_len (es_tup (ed_var rfl ⟨_, rfl, ea_nil ⟨n + 2, rfl, rfl, by omega, S.turns.length, by omega, by omega, by simp, fun j hj => ⟨_, rfl, lt_r rfl, ?_⟩⟩⟩)))))))
  have hgi : S.spots[i]? = some S.spots[i] := List.getElem?_eq_getElem hi
  have hgj : S.turns[j]? = some S.turns[j] := List.getElem?_eq_getElem hj
  have hmi : S.spots[i] ∈ S.spots := List.getElem_mem hi
  have hmj : S.turns[j] ∈ S.turns := List.getElem_mem hj
  have hbl := g.bl _ hmi
  have hli := hspl _ hmi
  have htj := htok _ hmj
  generalize S.spots[i] = q at hgi hmi hbl hli
  generalize S.turns[j] = t at hgj hmj htj
  have ati : atI (S.spots.map Spot.D) (i : Int) = some q.D := atI_ofNat (by rw [List.getElem?_map, hgi]; rfl)
  have atj : atI (S.turns.map Trn.D) (j : Int) = some t.D := atI_ofNat (by rw [List.getElem?_map, hgj]; rfl)
  refine sw_seq (sw_asg (ed_ixTv rfl (ed_var rfl ⟨rfl, _, q.D, rfl, ati, sg_tup ⟨_, rfl, rfl, sgs_cons (sg_name (lt_r rfl) (sgs_cons (sg_name (lt_r rfl) (sgs_cons (sg_name (lt_r rfl) (sgs_nil ?_))))))⟩⟩)))
  have hjn : ∀ k ∈ [(j : Int)], 0 ≤ k ∧ k < S.turns.length := fun k hk => by
    have : k = j := by simpa using hk
    omega
  show Sw _ [.o (Op p (n + 3)), .d S.D, .d (.int way), .d (.tuple (S.wires.map Wire.D)), .d (.tuple (S.turns.map Trn.D)), .d (.tuple (S.spots.map Spot.D)), .d (.int i), .d (.int j), .d (.tuple (q.bf.map .int)), .d (.tuple (q.bh.map .int)), .d (.int q.mark), .no, .no, .no, .no, .no] _ _ _ _
  -- 0: a spot left out
  refine sw_seq (sw_if (et_test (ed_eq (ed_var rfl (ed_int ⟨_, .int _ _, _, rfl, fun _ => ?_, fun _ => sw_next ?_⟩)))))
  · refine sw_retd (ed_tup (ea_cons (ed_var rfl (ea_cons (ed_var rfl (ea_cons (ed_catT (ed_slT (ed_var rfl ⟨_, rfl, eo_none (eo_some (ed_var rfl ⟨_, rfl, _, rfl, ed_slT (ed_var rfl ⟨_, rfl, eo_some (ed_I0 (ed_var rfl ⟨_, rfl, ed_int ⟨_, rfl, _, rfl, eo_none ⟨_, rfl, ?_, ea_nil ⟨smallr rfl, n + 3, rfl, ?_⟩⟩⟩⟩))⟩)⟩))⟩)))))))))
    · have e : cutD (S.spots.map Spot.D) (some ((i : Int) + 1)) none = (S.spots.map Spot.D).drop (i + 1) := cut_from (j := i + 1) (by rw [List.length_map]; omega)
      rw [cut_to (by rw [List.length_map]; omega), e, List.length_take, List.length_drop, sizeLine_eq, List.length_map]
      omega
    · have e : cutD (S.spots.map Spot.D) (some ((i : Int) + 1)) none = (S.spots.map Spot.D).drop (i + 1) := cut_from (j := i + 1) (by rw [List.length_map]; omega)
      rw [cut_to (by rw [List.length_map]; omega), e, ← List.map_take, ← List.map_drop, ← List.map_append]
      refine r (n + 3) ⟨S.wires, S.turns, S.spots.take i ++ S.spots.drop (i + 1)⟩ (by omega) (Hs.mk' hwok htok (fun x hx => ?_) ?_ (by omega) ?_ ht1)
      · rcases List.mem_append.mp hx with hx | hx
        · exact hspl x (List.mem_of_mem_take hx)
        · exact hspl x (List.mem_of_mem_drop hx)
      · rw [List.length_append, List.length_take, List.length_drop]; omega
      · rw [List.length_append, List.length_take, List.length_drop]; omega
  -- 1: its mark turned
  refine sw_seq (sw_if (et_test (ed_eq (ed_var rfl (ed_int ⟨_, .int _ _, _, rfl, fun _ => ?_, fun _ => sw_next ?_⟩)))))
  · refine sw_retd (ed_tup (ea_cons (ed_var rfl (ea_cons (ed_var rfl (ea_cons (ed_ew (ew_call (ea_cons (ed_var rfl (ea_cons (ed_var rfl (ea_cons (ed_tup (ea_cons (ed_var rfl (ea_cons (ed_var rfl (ea_cons (ed_I0 (ed_int ⟨_, rfl, ed_var rfl ⟨_, rfl, ea_nil ⟨smallr rfl, ea_nil ⟨rfl, S.spots.map Spot.D, i, (⟨q.bf, q.bh, 1 - q.mark⟩ : Spot).D, by rw [List.length_map]; exact hi, by rw [List.length_map]; omega, rfl, _, rfl, ea_nil ⟨smallr rfl, n + 3, rfl, ?_⟩⟩⟩⟩⟩)))))))))))))))))))))
    rw [← List.map_set]
    exact r (n + 3) ⟨S.wires, S.turns, S.spots.set i _⟩ (by omega) (Hs.mk' hwok htok (all_set hspl i ⟨hli.bf, hli.bh, hli.bfl, hli.bhl, flip01 hli.mark⟩) (by rw [List.length_set]; omega) (by omega) (by rw [List.length_set]; omega) ht1)
  -- 2: a turn's way turned
  refine sw_seq (sw_if (et_test (ed_eq (ed_var rfl (ed_int ⟨_, .int _ _, _, rfl, fun _ => ?_, fun _ => sw_next ?_⟩)))))
  · refine sw_retd (ed_tup (ea_cons (ed_var rfl (ea_cons (ed_ew (ew_call (ea_cons (ed_var rfl (ea_cons (ed_var rfl (ea_cons (ed_tup (ea_cons (ed_ixTc (ed_ixTv rfl (ed_var rfl ⟨rfl, _, t.D, rfl, atj, _, _, rfl, rfl, ea_cons (ed_I0 (ed_int ⟨_, rfl, ed_ixTc (ed_ixTv rfl (ed_var rfl ⟨rfl, _, t.D, rfl, atj, _, _, rfl, rfl, _, rfl, ea_nil ⟨smallr rfl, ea_nil ⟨rfl, S.turns.map Trn.D, j, (⟨t.name, 1 - t.way⟩ : Trn).D, by rw [List.length_map]; exact hj, by rw [List.length_map]; omega, rfl, _, rfl, ea_cons (ed_var rfl (ea_nil ⟨smallr rfl, n + 3, rfl, ?_⟩))⟩⟩⟩))⟩))⟩))))))))))))))))
    rw [← List.map_set]
    exact r (n + 3) ⟨S.wires, S.turns.set j _, S.spots⟩ (by omega) (Hs.mk' hwok (all_set htok j ⟨htj.1, flip01 htj.2⟩) (by rw [List.length_set]; exact hspl) (by omega) (by rw [List.length_set]; omega) (by omega) (by rw [List.length_set]; omega))
  -- 3, 4: a wire
  refine sw_seq (sw_if (et_test (ed_in (ed_var rfl (ed_tup (ea_cons (ed_int (ea_cons (ed_int (ea_nil ⟨smallr rfl, _, .intT _ [3, 4], _, rfl, fun hb => ?_, fun _ => sw_next ?_⟩))))))))))
  · have hw34 : way = 3 ∨ way = 4 := by
      have : (way : Int) = 3 ∨ (way : Int) = 4 := by simpa using hb
      omega
    refine sw_seq (sw_set (ed_ew (ew_callP rfl (ea_cons (ed_len (es_tup (ed_var rfl ⟨_, rfl, ea_nil ⟨n + 3, rfl, rfl, by omega, S.wires.length, by omega, by omega, by simp, fun h hh => ⟨_, rfl, lt_r rfl, ?_⟩⟩⟩)))))))
    show Sw _ [.o (Op p (n + 4)), .d S.D, .d (.int way), .d (.tuple (S.wires.map Wire.D)), .d (.tuple (S.turns.map Trn.D)), .d (.tuple (S.spots.map Spot.D)), .d (.int i), .d (.int j), .d (.tuple (q.bf.map .int)), .d (.tuple (q.bh.map .int)), .d (.int q.mark), .d (.int h), .no, .no, .no, .no] _ _ _ _
    have hgh : S.wires[h]? = some S.wires[h] := List.getElem?_eq_getElem hh
    have hmh : S.wires[h] ∈ S.wires := List.getElem_mem hh
    have hnm : (S.wires.map (·.name))[h]? = some (S.wires[h]).name := by rw [List.getElem?_map, hgh]; rfl
    generalize S.wires[h] = x at hgh hmh hnm
    have hxv := hwok x hmh
    have ath : atI (S.wires.map Wire.D) (h : Int) = some x.D := atI_ofNat (by rw [List.getElem?_map, hgh]; rfl)
    refine sw_seq (sw_asg (ed_ixTv rfl (ed_var rfl ⟨rfl, _, x.D, rfl, ath, sg_tup ⟨_, rfl, rfl, sgs_cons (sg_name (lt_r rfl) (sgs_cons (sg_name (lt_r rfl) (sgs_cons (sg_name (lt_r rfl) (sgs_nil ?_))))))⟩⟩)))
    show Sw _ [.o (Op p (n + 4)), .d S.D, .d (.int way), .d (.tuple (S.wires.map Wire.D)), .d (.tuple (S.turns.map Trn.D)), .d (.tuple (S.spots.map Spot.D)), .d (.int i), .d (.int j), .d (.tuple (q.bf.map .int)), .d (.tuple (q.bh.map .int)), .d (.int q.mark), .d (.int h), .d (.str x.name), .d (.str x.side), .d (.int x.val), .no] _ _ _ _
    have pb : ∀ b : Bool, ∃ sd : Str, atI [PyData.str "ask", PyData.str "answer"] (if b = true then (1 : Int) else 0) = some (.str sd) := fun b => by
      cases b
      · exact ⟨"ask", atI_ofNat (i := 0) rfl⟩
      · exact ⟨"answer", atI_ofNat (i := 1) rfl⟩
    refine sw_cut (fun Γ => ∃ (x' : Wire), x'.name = x.name ∧ Wok x' ∧ Γ = [.o (Op p (n + 4)), .d S.D, .d (.int way), .d (.tuple (S.wires.map Wire.D)), .d (.tuple (S.turns.map Trn.D)), .d (.tuple (S.spots.map Spot.D)), .d (.int i), .d (.int j), .d (.tuple (q.bf.map .int)), .d (.tuple (q.bh.map .int)), .d (.int q.mark), .d (.int h), .d (.str x.name), .d (.str x.side), .d (.int x.val), .d x'.D]) ?_ ?_
    · refine sw_set (ed_ixL (ed_new (ew_lst (ea_cons (ed_tup (ea_cons (ed_var rfl (ea_cons (ed_var rfl (ea_cons (ed_I0 (ed_int ⟨_, rfl, ed_var rfl ⟨_, rfl, ea_nil ⟨smallr rfl, ?_⟩⟩⟩))))))))))))
      refine ea_cons (ed_tup (ea_cons (ed_var rfl (ea_cons (ed_ixL (ed_new (ew_lst (ea_cons (ed_str (ea_cons (ed_str (ea_nil ⟨smallr rfl, _, rfl, _, rfl, ed_intB (ea_cons (ed_eq (ed_var rfl (ed_str ⟨_, .str _ _, ea_nil ⟨_, rfl, ?_⟩⟩))))⟩))))))))))) )
      obtain ⟨sd, hsd⟩ := pb (decide (x.side = Str.ofString "ask"))
      refine ⟨_, _, rfl, hsd, ea_cons (ed_var rfl (ea_nil ⟨smallr rfl, ea_nil ⟨smallr rfl, _, rfl, _, rfl, ed_I0 (ed_var rfl ⟨_, rfl, ed_int ⟨_, rfl, ?_⟩⟩)⟩⟩))⟩
      rcases hw34 with rfl | rfl
      · exact ⟨((0 : Nat) : Int), Wire.D ⟨x.name, x.side, 1 - x.val⟩, congrArg PyData.int (by decide), atI_ofNat (i := 0) rfl, lt_r rfl, ⟨x.name, x.side, 1 - x.val⟩, rfl, flip01 hxv, rfl⟩
      · exact ⟨((1 : Nat) : Int), Wire.D ⟨x.name, sd, x.val⟩, congrArg PyData.int (by decide), atI_ofNat (i := 1) rfl, lt_r rfl, ⟨x.name, sd, x.val⟩, rfl, hxv, rfl⟩
    · rintro Γ1 ⟨x', hx1, hx2, rfl⟩
      refine sw_retd (ed_tup (ea_cons (ed_ew (ew_call (ea_cons (ed_var rfl (ea_cons (ed_var rfl (ea_cons (ed_var rfl (ea_nil ⟨rfl, S.wires.map Wire.D, h, x'.D, by rw [List.length_map]; exact hh, by rw [List.length_map]; omega, rfl, _, rfl, ea_cons (ed_var rfl (ea_cons (ed_var rfl (ea_nil ⟨smallr rfl, n + 4, rfl, ?_⟩))))⟩)))))))))))
      rw [← List.map_set]
      have en : (S.wires.set h x').map (·.name) = S.wires.map (·.name) := by
        rw [List.map_set, hx1]
        have hlt : h < (S.wires.map (·.name)).length := by rw [List.length_map]; exact hh
        have e1 : (S.wires.map (·.name))[h] = x.name := (List.getElem?_eq_some_iff.mp hnm).2
        rw [← e1, List.set_getElem_self]
      exact r (n + 4) ⟨S.wires.set h x', S.turns, S.spots⟩ (by omega) (Hs.mk' (all_set hwok h hx2) (by rw [en]; exact htok) hspl (by rw [List.length_set]; omega) (by omega) (by omega) ht1)
  have setL : ∀ (xs : List Int), xs.length ≤ 2 → (∀ k ∈ xs, 0 ≤ k ∧ k < S.turns.length) → ∀ ys : List Int, ys.Pairwise (· < ·) → (∀ y, y ∈ ys ↔ y ∈ xs ++ [(j : Int)]) → ys.length ≤ 20 ∧ ∀ k ∈ ys, 0 ≤ k ∧ k < S.turns.length := by
    intro xs hx1 hx2 ys hy hm
    refine ⟨?_, fun k hk => ?_⟩
    · have nd : ys.Nodup := hy.imp fun h e => by omega
      have := nodup_le nd fun y hy => (hm y).mp hy
      rw [List.length_append, List.length_singleton] at this
      omega
    · rcases List.mem_append.mp ((hm k).mp hk) with hk | hk
      · exact hx2 k hk
      · exact hjn k hk
  -- 5: befores
  refine sw_seq (sw_if (et_test (ed_eq (ed_var rfl (ed_int ⟨_, .int _ _, _, rfl, fun _ => ?_, fun _ => sw_next ?_⟩)))))
  · refine sw_retd (ed_tup (ea_cons (ed_var rfl (ea_cons (ed_var rfl (ea_cons (ed_ew (ew_call (ea_cons (ed_var rfl (ea_cons (ed_var rfl (ea_cons (ed_tup (ea_cons (ed_tupC (es_new (ew_sortsetI (ed_catT (ed_var rfl ⟨_, rfl, ed_tup (ea_cons (ed_var rfl (ea_nil ⟨smallr rfl, _, rfl, ?_, q.bf ++ [(j : Int)], by rw [List.map_append]; rfl, by simp; omega, fun ys hy1 hy2 => ⟨_, rfl, rfl, ?_⟩⟩)))⟩))))))))))))))))))))
    · rw [List.length_map, sizeLine_eq]; simp; omega
    · refine ea_cons (ed_var rfl (ea_cons (ed_var rfl (ea_nil ⟨smallr rfl, ea_nil ⟨rfl, S.spots.map Spot.D, i, (⟨ys, q.bh, q.mark⟩ : Spot).D, by rw [List.length_map]; exact hi, by rw [List.length_map]; omega, rfl, _, rfl, ea_nil ⟨smallr rfl, n + 3, rfl, ?_⟩⟩⟩))))
      obtain ⟨y1, y2⟩ := setL q.bf hbl.1 hli.bf ys hy1 hy2
      rw [← List.map_set]
      exact r (n + 3) ⟨S.wires, S.turns, S.spots.set i _⟩ (by omega) (Hs.mk' hwok htok (all_set hspl i ⟨y2, hli.bh, y1, hli.bhl, hli.mark⟩) (by rw [List.length_set]; omega) (by omega) (by rw [List.length_set]; omega) ht1)
  -- 6: behinds
  refine sw_seq (sw_if (et_test (ed_eq (ed_var rfl (ed_int ⟨_, .int _ _, _, rfl, fun _ => ?_, fun _ => sw_next ?_⟩)))))
  · refine sw_retd (ed_tup (ea_cons (ed_var rfl (ea_cons (ed_var rfl (ea_cons (ed_ew (ew_call (ea_cons (ed_var rfl (ea_cons (ed_var rfl (ea_cons (ed_tup (ea_cons (ed_var rfl (ea_cons (ed_tupC (es_new (ew_sortsetI (ed_catT (ed_var rfl ⟨_, rfl, ed_tup (ea_cons (ed_var rfl (ea_nil ⟨smallr rfl, _, rfl, ?_, q.bh ++ [(j : Int)], by rw [List.map_append]; rfl, by simp; omega, fun ys hy1 hy2 => ⟨_, rfl, rfl, ?_⟩⟩)))⟩))))))))))))))))))))))
    · rw [List.length_map, sizeLine_eq]; simp; omega
    · refine ea_cons (ed_var rfl (ea_nil ⟨smallr rfl, ea_nil ⟨rfl, S.spots.map Spot.D, i, (⟨q.bf, ys, q.mark⟩ : Spot).D, by rw [List.length_map]; exact hi, by rw [List.length_map]; omega, rfl, _, rfl, ea_nil ⟨smallr rfl, n + 3, rfl, ?_⟩⟩⟩))
      obtain ⟨y1, y2⟩ := setL q.bh hbl.2 hli.bh ys hy1 hy2
      rw [← List.map_set]
      exact r (n + 3) ⟨S.wires, S.turns, S.spots.set i _⟩ (by omega) (Hs.mk' hwok htok (all_set hspl i ⟨hli.bf, y2, hli.bfl, y1, hli.mark⟩) (by rw [List.length_set]; omega) (by omega) (by rw [List.length_set]; omega) ht1)
  -- 7: a spot more
  refine sw_seq (sw_if (et_test (ed_eq (ed_var rfl (ed_int ⟨_, .int _ _, _, rfl, fun _ => ?_, fun _ => sw_next ?_⟩)))))
  · refine sw_seq (sw_set (ed_ew (ew_callP rfl (ea_cons (ed_len (es_tup (ed_var rfl ⟨_, rfl, ea_nil ⟨n + 3, rfl, rfl, by omega, S.turns.length, by omega, by omega, by simp, fun o ho => ⟨_, rfl, lt_r rfl, ?_⟩⟩⟩)))))))
    refine sw_retd (ed_tup (ea_cons (ed_var rfl (ea_cons (ed_var rfl (ea_cons (ed_catT (ed_var rfl ⟨_, rfl, ed_tup (ea_cons (ed_tup (ea_cons (ed_tup (ea_cons (ed_var rfl (ea_nil ⟨smallr rfl, ea_cons (ed_tup (ea_cons (ed_var rfl (ea_nil ⟨smallr rfl, ea_cons (ed_ew (ew_callP rfl (ea_cons (ed_int (ea_nil ⟨n + 4, rfl, rfl, by omega, 2, by decide, by decide, rfl, fun v hv => ⟨_, rfl, ea_nil ⟨smallr rfl, ea_nil ⟨smallr rfl, _, rfl, ?_, ea_nil ⟨smallr rfl, n + 5, rfl, ?_⟩⟩⟩⟩⟩)))))⟩))))⟩)))))))⟩))))))))
    · rw [List.length_map, sizeLine_eq]; simp; omega
    · have e : S.spots.map Spot.D ++ [PyData.tuple [.tuple [.int (j : Int)], .tuple [.int (o : Int)], .int (v : Int)]] = (S.spots ++ [(⟨[(j : Int)], [(o : Int)], (v : Int)⟩ : Spot)]).map Spot.D := by rw [List.map_append]; rfl
      rw [e]
      refine r (n + 5) ⟨S.wires, S.turns, S.spots ++ [⟨[(j : Int)], [(o : Int)], (v : Int)⟩]⟩ (by omega) (Hs.mk' hwok htok (all_snoc hspl ⟨hjn, fun k hk => ?_, by simp, by simp, by show (v : Int) = 0 ∨ (v : Int) = 1; omega⟩) (by simp; omega) (by omega) (by simp) ht1)
      have : k = o := by simpa using hk
      omega
  -- 8: a turn's name
  refine sw_seq (sw_if (et_test (ed_eq (ed_var rfl (ed_int ⟨_, .int _ _, _, rfl, fun _ => ?_, fun _ => sw_next ?_⟩)))))
  · refine sw_retd (ed_tup (ea_cons (ed_var rfl (ea_cons (ed_ew (ew_call (ea_cons (ed_var rfl (ea_cons (ed_var rfl (ea_cons (ed_tup (ea_cons (ed_ixTc (ed_ixT (ed_var rfl ⟨_, rfl, ed_ew (ew_callP rfl (ea_cons (ed_len (es_tup (ed_var rfl ⟨_, rfl, ea_nil ⟨n + 3, rfl, rfl, by omega, S.wires.length, by omega, by omega, by simp, fun h hh => ⟨_, rfl, ?_⟩⟩⟩)))))⟩))))))))))))))))
    have hgh : S.wires[h]? = some S.wires[h] := List.getElem?_eq_getElem hh
    have hmh : S.wires[h] ∈ S.wires := List.getElem_mem hh
    generalize S.wires[h] = x at hgh hmh
    refine ⟨_, x.D, rfl, atI_ofNat (by rw [List.getElem?_map, hgh]; rfl), _, _, rfl, rfl, ea_cons (ed_ixTc (ed_ixTv rfl (ed_var rfl ⟨rfl, _, t.D, rfl, atj, _, _, rfl, rfl, ea_nil ⟨smallr rfl, ea_nil ⟨rfl, S.turns.map Trn.D, j, (⟨x.name, t.way⟩ : Trn).D, by rw [List.length_map]; exact hj, by rw [List.length_map]; omega, rfl, _, rfl, ea_cons (ed_var rfl (ea_nil ⟨smallr rfl, n + 4, rfl, ?_⟩))⟩⟩⟩)))⟩
    rw [← List.map_set]
    exact r (n + 4) ⟨S.wires, S.turns.set j _, S.spots⟩ (by omega) (Hs.mk' hwok (all_set htok j ⟨List.mem_map.mpr ⟨x, hmh, rfl⟩, htj.2⟩) (by rw [List.length_set]; exact hspl) (by omega) (by rw [List.length_set]; omega) (by omega) (by rw [List.length_set]; omega))
  -- 9: a turn more
  refine sw_retd (ed_tup (ea_cons (ed_var rfl (ea_cons (ed_catT (ed_var rfl ⟨_, rfl, ed_tup (ea_cons (ed_tup (ea_cons (ed_ixTc (ed_ixTv rfl (ed_var rfl ⟨rfl, _, t.D, rfl, atj, _, _, rfl, rfl, ea_cons (ed_ew (ew_callP rfl (ea_cons (ed_int (ea_nil ⟨n + 3, rfl, rfl, by omega, 2, by decide, by decide, rfl, fun v hv => ⟨_, rfl, ea_nil ⟨smallr rfl, ea_nil ⟨smallr rfl, _, rfl, ?_, ?_⟩⟩⟩⟩)))))⟩))))))⟩))))))
  · rw [List.length_map, sizeLine_eq]; simp; omega
  · refine ea_cons (ed_catT (ed_var rfl ⟨_, rfl, ed_tup (ea_cons (ed_tup (ea_cons (ed_tup (ea_cons (ed_var rfl (ea_nil ⟨smallr rfl, ea_cons (ed_tup (ea_cons (ed_len (es_tup (ed_var rfl ⟨_, rfl, ea_nil ⟨smallr rfl, ea_cons (ed_int (ea_nil ⟨smallr rfl, ea_nil ⟨smallr rfl, _, rfl, ?_, ea_nil ⟨smallr rfl, n + 4, rfl, ?_⟩⟩⟩))⟩⟩)))))⟩)))))))⟩))
    · rw [List.length_map, sizeLine_eq]; simp; omega
    · have e1 : S.turns.map Trn.D ++ [PyData.tuple [.str t.name, .int (v : Int)]] = (S.turns ++ [(⟨t.name, (v : Int)⟩ : Trn)]).map Trn.D := by rw [List.map_append]; rfl
      have e2 : S.spots.map Spot.D ++ [PyData.tuple [.tuple [.int (j : Int)], .tuple [.int ((S.turns.map Trn.D).length : Nat)], .int 0]] = (S.spots ++ [(⟨[(j : Int)], [(S.turns.length : Int)], 0⟩ : Spot)]).map Spot.D := by rw [List.map_append, List.length_map]; rfl
      rw [e1, e2]
      refine r (n + 4) ⟨S.wires, S.turns ++ [⟨t.name, (v : Int)⟩], S.spots ++ [⟨[(j : Int)], [(S.turns.length : Int)], 0⟩]⟩ (by omega) (Hs.mk' hwok (all_snoc htok ⟨htj.1, by show (v : Int) = 0 ∨ (v : Int) = 1; omega⟩) (all_snoc (fun x hx => ?_) ⟨fun k hk => ?_, fun k hk => ?_, by simp, by simp, .inl rfl⟩) (by simp; omega) (by simp; omega) (by simp) (by simp))
      · obtain ⟨a, b, c, d, e⟩ := hspl x hx
        refine ⟨fun k hk => ?_, fun k hk => ?_, c, d, e⟩
        · have := a k hk
          rw [List.length_append, List.length_singleton]
          omega
        · have := b k hk
          rw [List.length_append, List.length_singleton]
          omega
      · have : k = j := by simpa using hk
        rw [List.length_append, List.length_singleton]
        omega
      · have : k = S.turns.length := by simpa using hk
        rw [List.length_append, List.length_singleton]
        omega

/-! ### _law_sheet -/
theorem pickW {r : Nat} (h : r ≤ 3) : ∃ way : Nat, (way = 0 ∨ way = 1 ∨ way = 2 ∨ way = 4) ∧ atI [PyData.int 0, .int 1, .int 2, .int 4] (r : Int) = some (.int (way : Int)) := by
  match r, h with
  | 0, _ => exact ⟨0, by omega, atI_ofNat rfl⟩
  | 1, _ => exact ⟨1, by omega, atI_ofNat rfl⟩
  | 2, _ => exact ⟨2, by omega, atI_ofNat rfl⟩
  | 3, _ => exact ⟨4, by omega, atI_ofNat rfl⟩
def S_law_sheet (n : Nat) (ds : List PyData) (R : Nat → Sv → Prop) : Prop := n ≤ 1000 ∧ ds = [] ∧ ∀ (m : Nat) (S : Sheet), m ≤ n + 1000 → Hs S → R m (.d S.D)
theorem w_law_sheet {P : Program} {w : World} {K : PySem.W.Frag} (p : Addr) (n : Nat) (ds : List PyData) (R : Nat → Sv → Prop) (hl : ds.length = 0) (h : S_law_sheet n ds R) :
    Sw (t_law_sheet K (SpP 1 S_law_draw) (SpP 0 S_law_by_choice) (SpP 1 S_law_of_word) (SpP 1 S_law_spoilt) (SpD 2 (S_law_stands P w))) (.o (Op p n) :: (ds.map Sv.d ++ List.replicate (N_law_sheet.length - 1) .no)) (fun Γ' => ∃ m', Γ'[0]? = some (.o (Op p m')) ∧ R m' (.d .none)) (fun Γ' s => ∃ m', Γ'[0]? = some (.o (Op p m')) ∧ R m' s) (fun _ => False) (fun _ => False) := by
  obtain ⟨hn, rfl, r⟩ := h
  unfold t_law_sheet
  show Sw _ [.o (Op p n), .no, .no, .no, .no] _ _ _ _
  refine sw_seq (sw_set (ed_B0 (ed_ew (ew_callP rfl (ea_cons (ed_int (ea_nil ⟨n, rfl, rfl, by omega, 3, by decide, by decide, rfl, fun b hb => ⟨_, rfl, _, rfl, ed_int ⟨_, rfl, lt_r rfl, ?_⟩⟩⟩)))))))
  refine sw_seq (sw_set (ed_ew (ew_callP rfl (ea_cons (ed_int (ea_nil ⟨n + 1, rfl, rfl, by omega, 6, by decide, by decide, rfl, fun way hway => ⟨_, rfl, lt_r rfl, ?_⟩⟩))))))
  refine sw_cut (fun Γ => ∃ (m : Nat) (S : Sheet) (s1 : Bool), m ≤ n + 500 ∧ Gs S ∧ Γ = [.o (Op p m), .d (.bool s1), .d (.int way), .d S.D, .no]) (sw_if (et_test (ed_B0 (ed_var rfl ⟨_, rfl, ed_int ⟨_, rfl, _, rfl, fun hb => ?_, fun hb => ?_⟩⟩)))) ?_
  · exact sw_set (ed_ew (ew_callP rfl (ea_nil ⟨n + 2, rfl, rfl, by omega, rfl, fun m S hm g => ⟨_, rfl, lt_r rfl, m, S, _, by omega, g, rfl⟩⟩)))
  · have hle : way ≤ 3 := by
      have : ¬ (3 : Int) < (way : Int) := by simpa using hb
      omega
    obtain ⟨wy, hwy, hat⟩ := pickW hle
    exact sw_set (ed_ew (ew_callP rfl (ea_cons (ed_ixL (ed_new (ew_lst (ea_cons (ed_int (ea_cons (ed_int (ea_cons (ed_int (ea_cons (ed_int (ea_nil ⟨smallr rfl, _, rfl, _, rfl, ed_var rfl ⟨_, _, rfl, hat, ea_nil ⟨n + 2, rfl, rfl, by omega, wy, hwy, rfl, fun m S hm g => ⟨_, rfl, lt_r rfl, m, S, _, by omega, g, rfl⟩⟩⟩⟩)))))))))))))))
  · rintro Γ1 ⟨m, S, s1, hm, g, rfl⟩
    refine sw_seq (sw_set (ed_ew (ew_callP rfl (ea_cons (ed_var rfl (ea_nil ⟨m, rfl, rfl, by omega, S, g, rfl, fun m2 S2 hm2 h2 => ⟨_, rfl, lt_r rfl, ?_⟩⟩))))))
    refine sw_seq (sw_if (et_and (et_B (ed_var rfl ⟨_, rfl, fun _ => ?_, fun _ => ⟨fun z => Bool.noConfusion z, fun _ => sw_next (sw_retd (ed_var rfl ⟨m2, rfl, r m2 S (by omega) g.hs⟩))⟩⟩))))
    refine et_test (ed_notNon (ew_call (ea_cons (ed_var rfl (ea_cons (ed_int (ea_nil ⟨rfl, S2, h2.ok, rfl, ?_, fun kvs => ?_⟩)))))))
    · refine ⟨by simp, fun d hd hne => absurd (Sv.d.inj hd).symm hne, fun _ => ⟨_, rfl, fun z => Bool.noConfusion z, fun _ => sw_next (sw_retd (ed_var rfl ⟨m2, rfl, r m2 S (by omega) g.hs⟩))⟩, fun q hq => by cases hq⟩
    · refine ⟨by simp, fun d hd _ => (by cases hd), fun hd => (by cases hd), fun q hq => ⟨_, rfl, fun _ => sw_retd (ed_var rfl ⟨m2, rfl, r m2 S2 (by omega) h2⟩), fun z => Bool.noConfusion z⟩⟩
end G

/-! ## part 29 -/
set_option Elab.async false
set_option linter.all false
set_option maxRecDepth 100000
set_option maxHeartbeats 1000000
namespace G
open PySem PySem.Spec PyProof.Rows L2
/-! F29: the plain law. -/
def nu (news : List Int) (k : Int) : Int := news[k.toNat]?.getD 0
def inv (news : List Int) (k : Int) : Int := (news.idxOf k : Nat)
structure Like (S S' : Sheet) (news ps : List Int) : Prop where
  w : S'.wires = S.wires
  tl : S'.turns.length = S.turns.length
  nlen : news.length = S.turns.length
  nr : ∀ k ∈ news, 0 ≤ k ∧ k < S.turns.length
  nd : news.Nodup
  sur : ∀ k : Int, 0 ≤ k → k < S.turns.length → k ∈ news
  tn : ∀ k : Int, 0 ≤ k → k < S.turns.length → turnAt S' (nu news k) = turnAt S k
  pl : ps.length = S'.spots.length
  pr : ∀ q ∈ ps, 0 ≤ q ∧ q < S.spots.length
  psur : ∀ q : Int, 0 ≤ q → q < S.spots.length → q ∈ ps
  sp : ∀ (i : Nat) q p', ps[i]? = some q → S'.spots[i]? = some p' → p'.mark = (spotAt S q).mark ∧ ∀ k : Int, 0 ≤ k → k < S.turns.length → ((nu news k ∈ p'.bf ↔ k ∈ (spotAt S q).bf) ∧ (nu news k ∈ p'.bh ↔ k ∈ (spotAt S q).bh))
def In (S : Sheet) (k : Int) : Prop := 0 ≤ k ∧ k < S.turns.length
section
variable {S S' : Sheet} {news ps : List Int}
theorem nu_get (h : Like S S' news ps) {k : Int} (hk : In S k) : news[k.toNat]? = some (nu news k) := by
  have := hk.1; have := hk.2; have := h.nlen
  unfold nu
  rw [List.getElem?_eq_getElem (by omega)]
  rfl
theorem nu_in (h : Like S S' news ps) {k : Int} (hk : In S k) : In S (nu news k) := h.nr _ (List.mem_of_getElem? (nu_get h hk))
theorem inv_nu (h : Like S S' news ps) {k : Int} (hk : In S k) : inv news (nu news k) = k := by
  have hg := nu_get h hk
  have hlt := (List.getElem?_eq_some_iff.mp hg).1
  have he := (List.getElem?_eq_some_iff.mp hg).2
  unfold inv
  have e := h.nd.idxOf_getElem k.toNat hlt
  rw [he] at e
  rw [e]
  have := hk.1
  omega
theorem inv_in (h : Like S S' news ps) {k : Int} (hk : In S k) : In S (inv news k) := by
  have hm := h.sur k hk.1 hk.2
  have := List.idxOf_lt_length_iff.mpr hm
  rw [h.nlen] at this
  unfold inv In
  omega
theorem nu_inv (h : Like S S' news ps) {k : Int} (hk : In S k) : nu news (inv news k) = k := by
  have hm := h.sur k hk.1 hk.2
  unfold nu inv
  rw [show ((news.idxOf k : Nat) : Int).toNat = news.idxOf k by omega, (idx_first hm).1]
  rfl
theorem nu_inj (h : Like S S' news ps) {j k : Int} (hj : In S j) (hk : In S k) (e : nu news j = nu news k) : j = k := by
  rw [← inv_nu h hj, ← inv_nu h hk, e]
/-- the stand, its marks at the places -/
def mvM (ps ms : List Int) : List Int := ps.map fun q => ms[q.toNat]?.getD 0
def mv (ps : List Int) (s : Stand) : Stand := (mvM ps s.1, s.2)
theorem mvM_get {ms : List Int} {i : Nat} {q : Int} (hq : ps[i]? = some q) : (mvM ps ms)[i]? = some (ms[q.toNat]?.getD 0) := by
  unfold mvM
  rw [List.getElem?_map, hq]
  rfl
/-- a spot and its mark there, from here -/
theorem spot_to (h : Like S S' news ps) {ms : List Int} (hm : ms.length = S.spots.length) {i : Nat} {p : Spot × Int} (hp : (S'.spots.zip (mvM ps ms))[i]? = some p) :
    ∃ q : Int, 0 ≤ q ∧ ps[i]? = some q ∧ (S.spots.zip ms)[q.toNat]? = some (spotAt S q, p.2) ∧ ∀ k, In S k → ((nu news k ∈ p.1.bf ↔ k ∈ (spotAt S q).bf) ∧ (nu news k ∈ p.1.bh ↔ k ∈ (spotAt S q).bh)) := by
  obtain ⟨h1, h2⟩ := List.getElem?_zip_eq_some.mp hp
  have hi := (List.getElem?_eq_some_iff.mp h1).1
  have hpi : ps[i]? = some (ps[i]'(by rw [h.pl]; exact hi)) := List.getElem?_eq_getElem _
  have hqm := List.mem_of_getElem? hpi
  generalize ps[i]'(by rw [h.pl]; exact hi) = q at hpi hqm
  obtain ⟨q0, q1⟩ := h.pr q hqm
  refine ⟨q, q0, hpi, ?_, fun k hk => (h.sp i q p.1 hpi h1).2 k hk.1 hk.2⟩
  rw [mvM_get hpi] at h2
  have h2' := Option.some.inj h2
  rw [List.getElem?_zip_eq_some]
  refine ⟨spotAt_get q0 q1, ?_⟩
  rw [← h2', List.getElem?_eq_getElem (by omega)]
  rfl
/-- .. and from there -/
theorem spot_from (h : Like S S' news ps) {ms : List Int} (hm : ms.length = S.spots.length) {i : Nat} {p : Spot × Int} (hp : (S.spots.zip ms)[i]? = some p) :
    ∃ (i' : Nat) (p' : Spot × Int), (S'.spots.zip (mvM ps ms))[i']? = some p' ∧ p'.2 = p.2 ∧ ∀ k, In S k → ((nu news k ∈ p'.1.bf ↔ k ∈ p.1.bf) ∧ (nu news k ∈ p'.1.bh ↔ k ∈ p.1.bh)) := by
  obtain ⟨h1, h2⟩ := List.getElem?_zip_eq_some.mp hp
  have hi := (List.getElem?_eq_some_iff.mp h1).1
  obtain ⟨i', hi'⟩ := List.getElem?_of_mem (h.psur (i : Int) (by omega) (by omega))
  have hil := (List.getElem?_eq_some_iff.mp hi').1
  have hs' : S'.spots[i']? = some (S'.spots[i']'(by rw [← h.pl]; exact hil)) := List.getElem?_eq_getElem _
  generalize S'.spots[i']'(by rw [← h.pl]; exact hil) = p' at hs'
  have hsp := h.sp i' _ p' hi' hs'
  have es : spotAt S (i : Int) = p.1 := by
    have := spotAt_get (S := S) (k := (i : Int)) (by omega) (by omega)
    rw [show ((i : Nat) : Int).toNat = i by omega, h1] at this
    exact (Option.some.inj this).symm
  refine ⟨i', (p', p.2), ?_, rfl, fun k hk => ?_⟩
  · rw [List.getElem?_zip_eq_some]
    refine ⟨hs', ?_⟩
    rw [mvM_get hi', show ((i : Nat) : Int).toNat = i by omega, h2]
    rfl
  · have := hsp.2 k hk.1 hk.2
    rw [es] at this
    exact this
theorem may_like (h : Like S S' news ps) {ms : List Int} (hm : ms.length = S.spots.length) {k : Int} (hk : In S k) : may S' (mvM ps ms) (nu news k) = may S ms k := by
  rw [Bool.eq_iff_iff]
  unfold may
  rw [List.all_eq_true, List.all_eq_true]
  constructor
  · intro H p hp
    obtain ⟨i, hi⟩ := List.getElem?_of_mem hp
    obtain ⟨i', p', h1, h2, h3⟩ := spot_from h hm hi
    have := H p' (List.mem_of_getElem? h1)
    rw [h2] at this
    rw [← decide_eq_decide.mpr (h3 k hk).2]
    exact this
  · intro H p hp
    obtain ⟨i, hi⟩ := List.getElem?_of_mem hp
    obtain ⟨q, q0, h0, h1, h2⟩ := spot_to h hm hi
    have := H _ (List.mem_of_getElem? h1)
    rw [decide_eq_decide.mpr (h2 k hk).2]
    exact this
theorem taken_like (h : Like S S' news ps) {j k : Int} (hj : In S j) (hk : In S k) : taken S' (nu news j) (nu news k) = taken S j k := by
  rw [Bool.eq_iff_iff]
  unfold taken
  rw [List.any_eq_true, List.any_eq_true]
  have hm : (List.replicate S.spots.length (0 : Int)).length = S.spots.length := by simp
  constructor
  · rintro ⟨p, hp, e⟩
    obtain ⟨i, hi⟩ := List.getElem?_of_mem hp
    have hil := (List.getElem?_eq_some_iff.mp hi).1
    obtain ⟨m, hm1, hz⟩ := zip_get (xs := S'.spots) (ys := mvM ps (List.replicate S.spots.length (0 : Int))) (by unfold mvM; rw [List.length_map, h.pl]) hi
    obtain ⟨q, q0, h0, h1, h2⟩ := spot_to h hm hz
    refine ⟨spotAt S q, (List.of_mem_zip (List.mem_of_getElem? h1)).1, ?_⟩
    rw [← decide_eq_decide.mpr (h2 j hj).2, ← decide_eq_decide.mpr (h2 k hk).2]
    exact e
  · rintro ⟨p, hp, e⟩
    obtain ⟨i, hi⟩ := List.getElem?_of_mem hp
    obtain ⟨m, hm1, hz⟩ := zip_get (xs := S.spots) (ys := List.replicate S.spots.length (0 : Int)) hm hi
    obtain ⟨i', p', h1, h2, h3⟩ := spot_from h hm hz
    refine ⟨p'.1, (List.of_mem_zip (List.mem_of_getElem? h1)).1, ?_⟩
    rw [decide_eq_decide.mpr (h3 j hj).2, decide_eq_decide.mpr (h3 k hk).2]
    exact e
theorem crowd_like (h : Like S S' news ps) {ms : List Int} (hm : ms.length = S.spots.length) {k : Int} (hk : In S k) : crowd S' (mvM ps ms) (nu news k) = crowd S ms k := by
  rw [Bool.eq_iff_iff]
  unfold crowd
  rw [List.any_eq_true, List.any_eq_true]
  constructor
  · rintro ⟨p, hp, e⟩
    obtain ⟨i, hi⟩ := List.getElem?_of_mem hp
    obtain ⟨q, q0, h0, h1, h2⟩ := spot_to h hm hi
    refine ⟨_, List.mem_of_getElem? h1, ?_⟩
    rw [← decide_eq_decide.mpr (h2 k hk).1, ← decide_eq_decide.mpr (h2 k hk).2]
    exact e
  · rintro ⟨p, hp, e⟩
    obtain ⟨i, hi⟩ := List.getElem?_of_mem hp
    obtain ⟨i', p', h1, h2, h3⟩ := spot_from h hm hi
    refine ⟨p', List.mem_of_getElem? h1, ?_⟩
    rw [h2, decide_eq_decide.mpr (h3 k hk).1, decide_eq_decide.mpr (h3 k hk).2]
    exact e
theorem ask_like (h : Like S S' news ps) {k : Int} (hk : In S k) : ask S' (nu news k) = ask S k := by
  unfold ask
  rw [h.w, h.tn k hk.1 hk.2]
theorem first_like (h : Like S S' news ps) : first S' = mv ps (first S) := by
  unfold first mv
  rw [h.w]
  refine Prod.ext ?_ rfl
  apply List.ext_getElem?
  intro i
  by_cases hi : i < S'.spots.length
  · have hp : ps[i]? = some (ps[i]'(by rw [h.pl]; exact hi)) := List.getElem?_eq_getElem _
    have hqm := List.mem_of_getElem? hp
    generalize ps[i]'(by rw [h.pl]; exact hi) = q at hp hqm
    obtain ⟨q0, q1⟩ := h.pr q hqm
    have hs := List.getElem?_eq_getElem hi
    rw [mvM_get hp, List.getElem?_map, hs, List.getElem?_map, spotAt_get q0 q1]
    have := (h.sp i q _ hp hs).1
    simp [this]
  · rw [List.getElem?_eq_none (by simpa using hi), List.getElem?_eq_none (by unfold mvM; rw [List.length_map, h.pl]; omega)]
theorem beh_like (h : Like S S' news ps) {s : Stand} (so : Sok S s) {k : Int} (hk : In S k) : beh S' (mv ps s) (nu news k) = mv ps (beh S s k) := by
  unfold beh mv
  refine Prod.ext ?_ ?_
  · show behM S' (mvM ps s.1) (nu news k) = mvM ps (behM S s.1 k)
    apply List.ext_getElem?
    intro i
    by_cases hi : i < S'.spots.length
    · have hp : ps[i]? = some (ps[i]'(by rw [h.pl]; exact hi)) := List.getElem?_eq_getElem _
      obtain ⟨m, hm1, hz⟩ := zip_get (xs := S'.spots) (ys := mvM ps s.1) (by unfold mvM; rw [List.length_map, h.pl]) (List.getElem?_eq_getElem hi)
      obtain ⟨q, q0, h0, h1, h2⟩ := spot_to h so.ml hz
      rw [mvM_get h0]
      unfold behM
      rw [List.getElem?_map, hz, List.getElem?_map, h1]
      simp only [Option.map_some, Option.getD_some, Option.some.injEq]
      have e1 := (h2 k hk).1
      have e2 := (h2 k hk).2
      by_cases c1 : k ∈ (spotAt S q).bf
      · rw [if_pos (e1.mpr c1), if_pos c1]
      · rw [if_neg (fun z => c1 (e1.mp z)), if_neg c1]
        by_cases c2 : k ∈ (spotAt S q).bh
        · rw [if_pos (e2.mpr c2), if_pos c2]
        · rw [if_neg (fun z => c2 (e2.mp z)), if_neg c2]
    · rw [List.getElem?_eq_none (by unfold behM mvM; rw [List.length_map, List.length_zip, List.length_map, h.pl]; omega), List.getElem?_eq_none (by unfold mvM; rw [List.length_map, h.pl]; omega)]
  · show behV S' s.2 (nu news k) = behV S s.2 k
    unfold behV
    rw [h.w, h.tn k hk.1 hk.2]
theorem two_sorted {a b : Int} {ys : List Int} (hp : ys.Perm [a, b]) (hs : ys.Pairwise (· ≤ ·)) (hne : a ≠ b) : (ys = [a, b] ∧ a < b) ∨ (ys = [b, a] ∧ b < a) := by
  match ys, hp.length_eq with
  | [x, y], _ =>
    have hx : x = a ∨ x = b := by simpa using hp.mem_iff.mp (List.mem_cons_self (a := x))
    have hxy : x ≤ y := by simpa using hs
    have ha : a = x ∨ a = y := by simpa using hp.mem_iff.mpr (List.mem_cons_self (a := a))
    have hb : b = x ∨ b = y := by simpa using hp.mem_iff.mpr (List.mem_cons_of_mem a (List.mem_cons_self (a := b)))
    rcases ha with rfl | rfl
    · rcases hb with rfl | rfl
      · exact absurd rfl hne
      · exact .inl ⟨rfl, by omega⟩
    · rcases hb with rfl | rfl
      · exact .inr ⟨rfl, by omega⟩
      · exact absurd rfl hne
theorem one_sorted {a : Int} {ys : List Int} (hp : ys.Perm [a]) : ys = [a] := List.perm_singleton.mp hp
theorem taken_comm (S : Sheet) (j k : Int) : taken S j k = taken S k j := by
  unfold taken
  congr 1
  funext p
  rw [Bool.and_comm]
theorem isF_to (h : Like S S' news ps) {s : Stand} (so : Sok S s) {f : Fault} (hf : IsF S s f) {ys : List Int} (hp : ys.Perm (f.2.map (nu news))) (hs : ys.Pairwise (· ≤ ·)) : IsF S' (mv ps s) (f.1, ys) := by
  have tl : (S'.turns.length : Int) = S.turns.length := by rw [h.tl]
  cases hf with
  | choice j k a b c d e t n =>
    have hj : In S j := ⟨c, by omega⟩
    have hk : In S k := ⟨by omega, e⟩
    have ij := nu_in h hj
    have ik := nu_in h hk
    have m1 : may S' (mv ps s).1 (nu news j) = true := (may_like h so.ml hj).trans a
    have m2 : may S' (mv ps s).1 (nu news k) = true := (may_like h so.ml hk).trans b
    have t1 : taken S' (nu news j) (nu news k) = true := (taken_like h hj hk).trans t
    have n1 : ¬(ask S' (nu news j) = true ∧ ask S' (nu news k) = true) := by rw [ask_like h hj, ask_like h hk]; exact n
    rcases two_sorted hp hs (fun e' => by have := nu_inj h hj hk e'; omega) with ⟨e1, e2⟩ | ⟨e1, e2⟩
    · rw [e1]; exact .choice _ _ m1 m2 ij.1 e2 (by rw [tl]; exact ik.2) t1 n1
    · rw [e1]; exact .choice _ _ m2 m1 ik.1 e2 (by rw [tl]; exact ij.2) (by rw [taken_comm]; exact t1) (fun z => n1 ⟨z.2, z.1⟩)
  | twice j k a b c d e n =>
    have hj : In S j := ⟨c, by omega⟩
    have hk : In S k := ⟨by omega, e⟩
    have ij := nu_in h hj
    have ik := nu_in h hk
    have m1 : may S' (mv ps s).1 (nu news j) = true := (may_like h so.ml hj).trans a
    have m2 : may S' (mv ps s).1 (nu news k) = true := (may_like h so.ml hk).trans b
    have n1 : (turnAt S' (nu news j)).name = (turnAt S' (nu news k)).name := by rw [h.tn j hj.1 hj.2, h.tn k hk.1 hk.2]; exact n
    rcases two_sorted hp hs (fun e' => by have := nu_inj h hj hk e'; omega) with ⟨e1, e2⟩ | ⟨e1, e2⟩
    · rw [e1]; exact .twice _ _ m1 m2 ij.1 e2 (by rw [tl]; exact ik.2) n1
    · rw [e1]; exact .twice _ _ m2 m1 ik.1 e2 (by rw [tl]; exact ij.2) n1.symm
  | crowd k a b c d =>
    have hk : In S k := ⟨b, c⟩
    have ik := nu_in h hk
    rw [one_sorted hp]
    exact .crowd _ ((may_like h so.ml hk).trans a) ik.1 (by rw [tl]; exact ik.2) ((crowd_like h so.ml hk).trans d)
  | way k a b c d =>
    have hk : In S k := ⟨b, c⟩
    have ik := nu_in h hk
    rw [one_sorted hp]
    refine .way _ ((may_like h so.ml hk).trans a) ik.1 (by rw [tl]; exact ik.2) ?_
    rw [h.tn k hk.1 hk.2]
    unfold value
    rw [h.w]
    exact d
  | fin a =>
    have : ys = [] := List.perm_nil.mp hp
    rw [this]
    refine .fin fun k h0 h1 => ?_
    rw [tl] at h1
    have hk : In S k := ⟨h0, h1⟩
    have ik := inv_in h hk
    have := may_like h so.ml ik
    rw [nu_inv h hk] at this
    exact this.trans (a _ ik.1 ik.2)
theorem isF_from (h : Like S S' news ps) {s : Stand} (so : Sok S s) {f : Fault} (hf : IsF S' (mv ps s) f) {ys : List Int} (hp : ys.Perm (f.2.map (inv news))) (hs : ys.Pairwise (· ≤ ·)) : IsF S s (f.1, ys) := by
  have tl : (S'.turns.length : Int) = S.turns.length := by rw [h.tl]
  have back : ∀ k', In S k' → ∃ k, In S k ∧ k' = nu news k ∧ inv news k' = k := fun k' hk' => ⟨inv news k', inv_in h hk', (nu_inv h hk').symm, rfl⟩
  cases hf with
  | choice j' k' a b c d e t n =>
    obtain ⟨j, hj, rfl, ej⟩ := back j' ⟨c, by omega⟩
    obtain ⟨k, hk, rfl, ek⟩ := back k' ⟨by omega, by omega⟩
    have hp' : ys.Perm [j, k] := by
      have : [j, k] = [nu news j, nu news k].map (inv news) := by simp [ej, ek]
      rw [this]; exact hp
    have hne : j ≠ k := fun z => by rw [z] at d; omega
    have m1 := (may_like h so.ml hj).symm.trans a
    have m2 := (may_like h so.ml hk).symm.trans b
    have t1 := (taken_like h hj hk).symm.trans t
    rw [ask_like h hj, ask_like h hk] at n
    rcases two_sorted hp' hs hne with ⟨e1, e2⟩ | ⟨e1, e2⟩
    · rw [e1]; exact .choice _ _ m1 m2 hj.1 e2 hk.2 t1 n
    · rw [e1]; exact .choice _ _ m2 m1 hk.1 e2 hj.2 (by rw [taken_comm]; exact t1) (fun z => n ⟨z.2, z.1⟩)
  | twice j' k' a b c d e n =>
    obtain ⟨j, hj, rfl, ej⟩ := back j' ⟨c, by omega⟩
    obtain ⟨k, hk, rfl, ek⟩ := back k' ⟨by omega, by omega⟩
    have hp' : ys.Perm [j, k] := by
      have : [j, k] = [nu news j, nu news k].map (inv news) := by simp [ej, ek]
      rw [this]; exact hp
    have hne : j ≠ k := fun z => by rw [z] at d; omega
    have m1 := (may_like h so.ml hj).symm.trans a
    have m2 := (may_like h so.ml hk).symm.trans b
    rw [h.tn j hj.1 hj.2, h.tn k hk.1 hk.2] at n
    rcases two_sorted hp' hs hne with ⟨e1, e2⟩ | ⟨e1, e2⟩
    · rw [e1]; exact .twice _ _ m1 m2 hj.1 e2 hk.2 n
    · rw [e1]; exact .twice _ _ m2 m1 hk.1 e2 hj.2 n.symm
  | crowd k' a b c d =>
    obtain ⟨k, hk, rfl, ek⟩ := back k' ⟨b, by omega⟩
    have hp' : ys.Perm [k] := by
      have : [k] = [nu news k].map (inv news) := by simp [ek]
      rw [this]; exact hp
    rw [one_sorted hp']
    exact .crowd _ ((may_like h so.ml hk).symm.trans a) hk.1 hk.2 ((crowd_like h so.ml hk).symm.trans d)
  | way k' a b c d =>
    obtain ⟨k, hk, rfl, ek⟩ := back k' ⟨b, by omega⟩
    have hp' : ys.Perm [k] := by
      have : [k] = [nu news k].map (inv news) := by simp [ek]
      rw [this]; exact hp
    rw [one_sorted hp']
    refine .way _ ((may_like h so.ml hk).symm.trans a) hk.1 hk.2 ?_
    rw [h.tn k hk.1 hk.2] at d
    unfold value at d ⊢
    rw [h.w] at d
    exact d
  | fin a =>
    have : ys = [] := List.perm_nil.mp hp
    rw [this]
    refine .fin fun k h0 h1 => ?_
    have hk : In S k := ⟨h0, h1⟩
    have ik := nu_in h hk
    have := a (nu news k) ik.1 (by rw [tl]; exact ik.2)
    exact (may_like h so.ml hk).symm.trans this
def isort (xs : List Int) : List Int := xs.mergeSort fun a b => decide (a ≤ b)
theorem isort_perm (xs : List Int) : (isort xs).Perm xs := List.mergeSort_perm _ _
theorem isort_sorted (xs : List Int) : (isort xs).Pairwise (· ≤ ·) := by
  have := List.pairwise_mergeSort (le := fun a b : Int => decide (a ≤ b)) (fun a b c h1 h2 => by simp at *; omega) (fun a b => by simp; omega) xs
  exact this.imp fun h => by simpa using h
theorem fine_to (h : Like S S' news ps) {s : Stand} (so : Sok S s) (hf : Fine S s) : Fine S' (mv ps s) := fun f hf' => hf _ (isF_from h so hf' (isort_perm _) (isort_sorted _))
theorem fine_from (h : Like S S' news ps) {s : Stand} (so : Sok S s) (hf : Fine S' (mv ps s)) : Fine S s := fun f hf' => hf _ (isF_to h so hf' (isort_perm _) (isort_sorted _))
theorem run_to (h : Like S S' news ps) (ok : Ok S) {row : List Int} {s : Stand} (r : Run S row s) : Run S' (row.map (nu news)) (mv ps s) := by
  induction r with
  | nil => rw [← first_like h]; exact .nil
  | @snoc row s k r hf hm h0 h1 ih =>
    have so := r.sok ok
    have hk : In S k := ⟨h0, h1⟩
    have ik := nu_in h hk
    rw [List.map_append, ← beh_like h so hk]
    exact .snoc ih (fine_to h so hf) ((may_like h so.ml hk).trans hm) ik.1 (by rw [h.tl]; exact ik.2)
theorem run_from (h : Like S S' news ps) (ok : Ok S) {row : List Int} {s' : Stand} (r : Run S' row s') : ∃ s, s' = mv ps s ∧ Run S (row.map (inv news)) s := by
  induction r with
  | nil => exact ⟨first S, first_like h, .nil⟩
  | @snoc row s' k' r hf hm h0 h1 ih =>
    obtain ⟨s, rfl, r1⟩ := ih
    have so := r1.sok ok
    have hk' : In S k' := ⟨h0, by rw [h.tl] at h1; exact h1⟩
    have hk := inv_in h hk'
    have e := nu_inv h hk'
    refine ⟨beh S s (inv news k'), ?_, ?_⟩
    · rw [← beh_like h so hk, e]
    · rw [List.map_append]
      refine .snoc r1 (fine_from h so hf) ?_ hk.1 hk.2
      have := may_like h so.ml hk
      rw [e] at this
      exact this.symm.trans hm
theorem mv_inj (h : Like S S' news ps) {s t : Stand} (so : Sok S s) (st : Sok S t) (e : mv ps s = mv ps t) : s = t := by
  obtain ⟨e1, e2⟩ := Prod.mk.inj (show (mvM ps s.1, s.2) = (mvM ps t.1, t.2) from e)
  refine Prod.ext ?_ e2
  apply List.ext_getElem?
  intro i
  by_cases hi : i < S.spots.length
  · obtain ⟨i', hi'⟩ := List.getElem?_of_mem (h.psur (i : Int) (by omega) (by omega))
    have a := mvM_get (ms := s.1) hi'
    have b := mvM_get (ms := t.1) hi'
    rw [e1, b] at a
    have a' := Option.some.inj a
    have hs : s.1[i]? = some (s.1[i]'(by rw [so.ml]; exact hi)) := List.getElem?_eq_getElem _
    have ht : t.1[i]? = some (t.1[i]'(by rw [st.ml]; exact hi)) := List.getElem?_eq_getElem _
    rw [show ((i : Nat) : Int).toNat = i by omega, hs, ht] at a'
    rw [hs, ht]
    exact congrArg some a'.symm
  · rw [List.getElem?_eq_none (by rw [so.ml]; omega), List.getElem?_eq_none (by rw [st.ml]; omega)]
end
/-! ### two sorted lists of the same stands -/
theorem toks_ints : ∀ {xs ys : List Int} {a b : List (Int ⊕ List Nat)}, PySem.W.keyToksAll (xs.map PyData.int) ++ a = PySem.W.keyToksAll (ys.map PyData.int) ++ b → xs = ys ∧ a = b
  | [], [], a, b, h => by simpa [PySem.W.keyToksAll] using h
  | [], y :: ys, a, b, h => by simp [PySem.W.keyToksAll] at h
  | x :: xs, [], a, b, h => by simp [PySem.W.keyToksAll] at h
  | x :: xs, y :: ys, a, b, h => by
    simp only [List.map_cons, PySem.W.keyToksAll, PySem.W.keyToks, List.cons_append, List.nil_append, List.cons.injEq, Sum.inl.injEq, true_and, List.append_assoc] at h
    obtain ⟨h1, h2⟩ := toks_ints h.2
    exact ⟨by rw [h.1, h1], h2⟩
theorem toks_stand {s t : Stand} (h : PySem.W.keyToks (sD s) = PySem.W.keyToks (sD t)) : s = t := by
  unfold sD at h
  simp only [PySem.W.keyToks, PySem.W.keyToksAll, List.cons.injEq, true_and] at h
  obtain ⟨h1, h2⟩ := toks_ints h
  simp only [List.cons.injEq, true_and] at h2
  obtain ⟨h3, _⟩ := toks_ints h2
  exact Prod.ext h1 h3
def sle (s t : Stand) : Bool := PySem.W.dataLe false id (sD s) (sD t)
theorem sle_anti {s t : Stand} (h1 : sle s t = true) (h2 : sle t s = true) : s = t := by
  refine toks_stand ?_
  have a : PyProof.Rows.lexLt PyProof.Rows.itemOrd (PySem.W.keyToks (sD t)) (PySem.W.keyToks (sD s)) = false := by
    have : (!PyProof.Rows.lexLt PyProof.Rows.itemOrd (PySem.W.keyToks (sD t)) (PySem.W.keyToks (sD s))) = true := h1
    simpa using this
  have b : PyProof.Rows.lexLt PyProof.Rows.itemOrd (PySem.W.keyToks (sD s)) (PySem.W.keyToks (sD t)) = false := by
    have : (!PyProof.Rows.lexLt PyProof.Rows.itemOrd (PySem.W.keyToks (sD s)) (PySem.W.keyToks (sD t))) = true := h2
    simpa using this
  exact (PyProof.Rows.listOrd PyProof.Rows.itemOrd).total _ _ b a
theorem sorted_same {xs ys : List Stand} (h : xs.Perm ys) : sortD (xs.map sD) = sortD (ys.map sD) := by
  have tl := PySem.W.sortLe_total (PyProof.Rows.listOrd PyProof.Rows.itemOrd) false (fun s : Stand => PySem.W.keyToks (sD s))
  have e : ∀ zs : List Stand, sortD (zs.map sD) = (zs.mergeSort sle).map sD := fun zs => by
    unfold sortD
    rw [List.map_mergeSort]
    intro a _ b _
    rfl
  rw [e, e]
  congr 1
  have tr : ∀ a b c : Stand, sle a b = true → sle b c = true → sle a c = true := fun a b c => tl.trans a b c
  have tt : ∀ a b : Stand, (sle a b || sle b a) = true := fun a b => by
    rcases tl.total a b with q | q
    · have : sle a b = true := q
      rw [this]; rfl
    · have : sle b a = true := q
      rw [this]; simp
  have hp : (xs.mergeSort sle).Perm (ys.mergeSort sle) := (List.mergeSort_perm _ _).trans (h.trans (List.mergeSort_perm _ _).symm)
  exact List.Perm.eq_of_pairwise (fun a b _ _ h1 h2 => sle_anti h1 h2) (List.pairwise_mergeSort tr tt xs) (List.pairwise_mergeSort tr tt ys) hp
end G

/-! ## part 30 -/
set_option Elab.async false
set_option linter.all false
set_option maxRecDepth 100000
set_option maxHeartbeats 1000000
namespace G
open PySem PySem.Spec PyProof.Rows L2
/-! ### _law_leads -/
theorem Run.spec {S : Sheet} {row : List Int} {s : Stand} (r : Run S row s) : s = row.foldl (beh S) (first S) ∧ (∀ pre post, row = pre ++ post → Run S pre (pre.foldl (beh S) (first S))) ∧
    ∀ pre k post, row = pre ++ k :: post → Fine S (pre.foldl (beh S) (first S)) ∧ may S (pre.foldl (beh S) (first S)).1 k = true ∧ 0 ≤ k ∧ k < S.turns.length := by
  induction r with
  | nil =>
    refine ⟨rfl, fun pre post e => ?_, fun pre k post e => ?_⟩
    · have := (List.append_eq_nil_iff.mp e.symm).1
      subst this
      exact .nil
    · simp at e
  | @snoc row s k r hf hm h0 h1 ih =>
    obtain ⟨rfl, i2, i3⟩ := ih
    refine ⟨by rw [List.foldl_append]; rfl, fun pre post e => ?_, fun pre k' post e => ?_⟩
    · rcases List.eq_nil_or_concat post with rfl | ⟨post', x, rfl⟩
      · rw [List.append_nil] at e
        rw [← e, List.foldl_append]
        exact .snoc r hf hm h0 h1
      · rw [List.concat_eq_append, ← List.append_assoc] at e
        have := (List.append_inj' e rfl).1
        exact i2 pre post' this
    · rcases List.eq_nil_or_concat post with rfl | ⟨post', x, rfl⟩
      · obtain ⟨e1, e2⟩ := List.append_inj' e rfl
        subst e1
        have : k = k' := by simpa using e2
        subst this
        exact ⟨hf, hm, h0, h1⟩
      · have e' : row ++ [k] = (pre ++ k' :: post') ++ [x] := by rw [e]; simp
        have := (List.append_inj' e' rfl).1
        exact i3 pre k' post' this
theorem Run.mem {S : Sheet} {row : List Int} {s : Stand} (r : Run S row s) : ∀ k ∈ row, In S k := by
  intro k hk
  obtain ⟨pre, post, e⟩ := List.append_of_mem hk
  obtain ⟨_, _, h0, h1⟩ := r.spec.2.2 pre k post e
  exact ⟨h0, h1⟩
theorem eqv_fault (f : Fault) : PyData.eqv f.D f.D = true := by simp [Fault.D, PyData.eqv, PyData.eqvAll, eqv_ints]
theorem fine_nil {S : Sheet} {s : Stand} {fs : List Fault} (h : ∀ f, f ∈ fs ↔ IsF S s f) (hf : Fine S s) : fs = [] := by
  rw [List.eq_nil_iff_forall_not_mem]
  intro f hm
  exact hf f ((h f).mp hm)
def S_law_leads (ds : List PyData) (R : Sv → Prop) : Prop := ∃ (S : Sheet) (row : List Int) (s : Stand) (f : Fault), Ok S ∧ Run S row s ∧ IsF S s f ∧ row.length ≤ 5000000 ∧ ds = [S.D, .list (row.map PyData.int), f.D] ∧ R (.d (.bool true))
theorem w_law_leads {K : PySem.W.Frag} (ds : List PyData) (R : Sv → Prop) (hl : ds.length = 3) (h : S_law_leads ds R) :
    Sw (t_law_leads K (SpD 1 S_first_of) (SpD 2 S_faults_at) (SpD 2 S_may_turn) (SpD 3 S_behind)) (ds.map Sv.d ++ List.replicate (N_law_leads.length - 3) .no) (fun _ => R (.d .none)) (fun _ s => R s) (fun _ => False) (fun _ => False) := by
  obtain ⟨S, row, s, f, ok, run, hf, hrl, rfl, r⟩ := h
  obtain ⟨es, hpre, hstep⟩ := run.spec
  unfold t_law_leads
  show Sw _ [.d S.D, .d (.list (row.map PyData.int)), .d f.D, .no, .no] _ _ _ _
  refine sw_seq (sw_set (ed_ew (ew_call (ea_cons (ed_var rfl (ea_nil ⟨rfl, S, ok, rfl, _, rfl, lt_r rfl, ?_⟩))))))
  refine sw_cut (fun Γ => ∃ s4, Γ = [.d S.D, .d (.list (row.map PyData.int)), .d f.D, .d (sD s), s4]) (sw_forL row PyData.int (fun pre Γ => ∃ s4, Γ = [.d S.D, .d (.list (row.map PyData.int)), .d f.D, .d (sD (pre.foldl (beh S) (first S))), s4]) ?_) ?_
  · refine iw_list (ed_var rfl ⟨_, rfl, rfl, ⟨.no, rfl⟩, fun pre k post Γ2 e iv => ?_, fun Γ2 iv => ?_⟩)
    · obtain ⟨s4, rfl⟩ := iv
      obtain ⟨hfine, hm, h0, h1⟩ := hstep pre k post e
      have so := (hpre pre (k :: post) e).sok ok
      generalize et : pre.foldl (beh S) (first S) = t at hfine hm so
      refine sg_name (lt_r rfl) (sw_seq (sw_ifV (false || false) (et_orV _ _ ?_ fun _ => ?_) (fun z => Bool.noConfusion z) (fun _ => sw_next ?_)))
      · refine et_test (ed_neD (ed_ew (ew_call (ea_cons (ed_var rfl (ea_cons (ed_var rfl (ea_nil ⟨rfl, S, t, ok, rfl, fun fs hfs hfl => ⟨_, ⟨_, rfl, rfl⟩, ed_new (ew_lst (ea_nil ⟨smallr rfl, [], rfl, shaped_faults (fun g hg => ((hfs g).mp hg).tag), shaped_nil, _, rfl, rfl, ?_⟩))⟩⟩))))))))
        rw [fine_nil hfs hfine, List.map_nil, eqv_nil]
        rfl
      · refine et_test (ed_in (ed_var rfl (ed_ew (ew_call (ea_cons (ed_var rfl (ea_cons (ed_ixTc (ed_var rfl ⟨_, _, rfl, rfl, ea_nil ⟨rfl, S, t.1, ok, rfl, _, ⟨_, rfl, rfl⟩, _, .intL _ _, _, rfl, rfl, ?_⟩⟩)))))))))
        have : k ∈ mays S t.1 := mem_mays.mpr ⟨h0, h1, hm⟩
        simp [this]
      · refine sw_set (ed_ew (ew_call (ea_cons (ed_var rfl (ea_cons (ed_var rfl (ea_cons (ed_var rfl (ea_nil ⟨rfl, S, t, k, ok, so, h0, h1, rfl, _, rfl, lt_r rfl, .d (.int k), ?_⟩)))))))))
        rw [List.foldl_append, et]
        rfl
    · obtain ⟨s4, rfl⟩ := iv
      exact ⟨s4, by rw [← es]⟩
  · rintro Γ1 ⟨s4, rfl⟩
    refine sw_retd (ed_inD (ed_var rfl (ed_ew (ew_call (ea_cons (ed_var rfl (ea_cons (ed_var rfl (ea_nil ⟨rfl, S, s, ok, rfl, fun fs hfs hfl => ⟨_, ⟨_, rfl, rfl⟩, _, rfl, shaped_fault hf.tag, shaped_faults (fun g hg => ((hfs g).mp hg).tag), ?_⟩⟩)))))))))
    have : (fs.map Fault.D).any (fun z => PyData.eqv z f.D) = true := List.any_eq_true.mpr ⟨f.D, List.mem_map.mpr ⟨f, (hfs f).mpr hf, rfl⟩, eqv_fault f⟩
    rw [this]
    exact r

/-! ### _law_called -/
def S_law_called (ds : List PyData) (R : Sv → Prop) : Prop := ∃ (f : Fault) (news : List Int), f.2.length ≤ 10 ∧ (∀ k ∈ f.2, 0 ≤ k ∧ k < news.length) ∧ ds = [f.D, .list (news.map PyData.int)] ∧ ∀ ys : List Int, ys.Perm (f.2.map (nu news)) → ys.Pairwise (· ≤ ·) → R (.d (Fault.D (f.1, ys)))
theorem w_law_called {K : PySem.W.Frag} (ds : List PyData) (R : Sv → Prop) (hl : ds.length = 2) (h : S_law_called ds R) :
    Sw (t_law_called K) (ds.map Sv.d ++ List.replicate (N_law_called.length - 2) .no) (fun _ => R (.d .none)) (fun _ s => R s) (fun _ => False) (fun _ => False) := by
  obtain ⟨f, news, h1, h2, rfl, r⟩ := h
  unfold t_law_called
  show Sw _ [.d f.D, .d (.list (news.map PyData.int)), .no] _ _ _ _
  have ec : cutD (PyData.str f.1 :: f.2.map .int) (some (1 : Int)) none = f.2.map .int := cut_from (ds := PyData.str f.1 :: f.2.map .int) (j := 1) (by simp)
  refine sw_retd (ed_catT (ed_tup (ea_cons (ed_ixTc (ed_var rfl ⟨_, .str f.1, rfl, atI_ofNat (i := 0) rfl, ea_nil ⟨smallr rfl, _, rfl, ?_⟩⟩)))))
  refine ed_tupC (es_new (ew_sortedI (es_new (ew_lc1 f.2 PyData.int (fun k => .int (nu news k)) mon_name tch1 (iw_tup (ed_slT (ed_var rfl ⟨_, rfl, eo_some (ed_int ⟨_, rfl, eo_none ⟨_, rfl, rfl, ec, small (m := 10) h1⟩⟩)⟩))) (fun k hk => ?_) ⟨_, rfl, f.2.map (nu news), by rw [List.map_map]; rfl, by rw [List.length_map]; omega, fun ys hy1 hy2 => ⟨_, rfl, rfl, _, rfl, ?_, r ys hy1 hy2⟩⟩))))
  · obtain ⟨k0, k1⟩ := h2 k hk
    have e : news[k.toNat]? = some (nu news k) := by
      unfold nu
      rw [List.getElem?_eq_getElem (by omega)]
      rfl
    exact sg_name (lt_r rfl) (ed_ixL (ed_var rfl ⟨_, rfl, ed_var rfl ⟨_, _, rfl, atI_map PyData.int (atI_of k0 e), rfl, rfl⟩⟩))
  · rw [List.length_map, hy1.length_eq, List.length_map, sizeLine_eq]
    simp; omega

/-! ### outcomes -/
def fallD (row : List Int) (f : Fault) : PyData := .tuple [.str "fall", intsD row, f.D]
def soundD (ss : List Stand) : PyData := .tuple [.str "sound", .tuple (sortD (ss.map sD))]
def FallOut (S : Sheet) (row : List Int) (f : Fault) : Prop := ∃ s, Run S row s ∧ IsF S s f ∧ row.length ≤ 5000000
structure SoundOut (S : Sheet) (ss : List Stand) : Prop where
  nd : ss.Nodup
  len : ss.length ≤ 5000000
  mem : ∀ s, s ∈ ss ↔ ∃ row, Run S row s
  fine : ∀ s row, Run S row s → Fine S s
def Out (S : Sheet) (d : PyData) : Prop := (∃ row f, FallOut S row f ∧ d = fallD row f) ∨ ∃ ss, SoundOut S ss ∧ d = soundD ss
theorem sound_out {S : Sheet} (ok : Ok S) {R : Sv → Prop} (h : ∀ d, Out S d → R (.d d)) : S_sound [S.D] R := ⟨S, ok, rfl, fun row s f r hf hl => h _ (.inl ⟨row, f, ⟨s, r, hf, hl⟩, rfl⟩), fun ss h1 h2 h3 h4 => h _ (.inr ⟨ss, ⟨h1, h2, h3, h4⟩, rfl⟩)⟩
theorem IsF.args {S : Sheet} {s : Stand} {f : Fault} (h : IsF S s f) : f.2.length ≤ 2 ∧ ∀ k ∈ f.2, In S k := by
  cases h with
  | choice j k a b c d e t n =>
    refine ⟨by simp, fun x hx => ?_⟩
    have : x = j ∨ x = k := by simpa using hx
    unfold In; omega
  | twice j k a b c d e n =>
    refine ⟨by simp, fun x hx => ?_⟩
    have : x = j ∨ x = k := by simpa using hx
    unfold In; omega
  | crowd k a b c d =>
    refine ⟨by simp, fun x hx => ?_⟩
    have : x = k := by simpa using hx
    unfold In; omega
  | way k a b c d =>
    refine ⟨by simp, fun x hx => ?_⟩
    have : x = k := by simpa using hx
    unfold In; omega
  | fin a => exact ⟨by simp, fun x hx => by simp at hx⟩
section
variable {S S' : Sheet} {news ps : List Int}
theorem fall_sound (h : Like S S' news ps) (ok : Ok S) {row : List Int} {f : Fault} {ss : List Stand} (a : FallOut S row f) (b : SoundOut S' ss) : False := by
  obtain ⟨s, r, hf, _⟩ := a
  exact b.fine _ _ (run_to h ok r) _ (isF_to h (r.sok ok) hf (isort_perm _) (isort_sorted _))
theorem sound_fall (h : Like S S' news ps) (ok : Ok S) {row : List Int} {f : Fault} {ss : List Stand} (a : SoundOut S ss) (b : FallOut S' row f) : False := by
  obtain ⟨s', r, hf, _⟩ := b
  obtain ⟨s, rfl, r1⟩ := run_from h ok r
  exact a.fine _ _ r1 _ (isF_from h (r1.sok ok) hf (isort_perm _) (isort_sorted _))
theorem sound_perm (h : Like S S' news ps) (ok : Ok S) {ss ss' : List Stand} (a : SoundOut S ss) (b : SoundOut S' ss') : ss'.Perm (ss.map (mv ps)) := by
  have so : ∀ s ∈ ss, Sok S s := fun s hs => by
    obtain ⟨row, r⟩ := (a.mem s).mp hs
    exact r.sok ok
  have nd : (ss.map (mv ps)).Nodup := by
    rw [List.Nodup, List.pairwise_map]
    have : ∀ l : List Stand, l.Nodup → (∀ s ∈ l, Sok S s) → l.Pairwise fun x y => mv ps x ≠ mv ps y := by
      intro l
      induction l with
      | nil => intro _ _; exact .nil
      | cons x l ih =>
        intro hn hs
        obtain ⟨n1, n2⟩ := List.nodup_cons.mp hn
        refine .cons (fun y hy e => ?_) (ih n2 fun s hs' => hs s (List.mem_cons_of_mem _ hs'))
        have := mv_inj h (hs x List.mem_cons_self) (hs y (List.mem_cons_of_mem _ hy)) e
        exact n1 (this ▸ hy)
    exact this ss a.nd so
  refine (List.perm_ext_iff_of_nodup b.nd nd).mpr fun t => ?_
  rw [b.mem, List.mem_map]
  constructor
  · rintro ⟨row, r⟩
    obtain ⟨s, rfl, r1⟩ := run_from h ok r
    exact ⟨s, (a.mem s).mpr ⟨_, r1⟩, rfl⟩
  · rintro ⟨s, hs, rfl⟩
    obtain ⟨row, r⟩ := (a.mem s).mp hs
    exact ⟨_, run_to h ok r⟩
end
theorem eqv_stand (s : Stand) : PyData.eqv (sD s) (sD s) = true := by simp [sD, PyData.eqv, PyData.eqvAll, eqv_ints]
theorem eqv_stands : ∀ ss : List Stand, PyData.eqvAll (ss.map sD) (ss.map sD) = true
  | [] => by simp [PyData.eqvAll]
  | s :: ss => by
    have h1 := eqv_stand s
    have h2 := eqv_stands ss
    simp only [List.map_cons, PyData.eqvAll, h1, h2, Bool.and_self]
theorem shaped_standsT (ws : List Stand) : SeqAt.shaped (.tuple (ws.map sD)) = true := by
  have := depth_stands ws
  simp [SeqAt.shaped, PyData.canLay0, lay_stands, PyData.depth]
  omega
theorem mv_D (ps : List Int) (s : Stand) : sD (mv ps s) = .tuple [.tuple (ps.map fun q => .int (s.1[q.toNat]?.getD 0)), .tuple (s.2.map .int)] := by
  unfold sD mv mvM
  rw [List.map_map]
  rfl
/-! ### _law_alike -/
def S_law_alike (ds : List PyData) (R : Sv → Prop) : Prop := ∃ (S S' : Sheet) (news ps : List Int) (d d' : PyData), Ok S ∧ Ok S' ∧ Like S S' news ps ∧ Out S d ∧ Out S' d' ∧ ds = [S.D, d, S'.D, d', .list (news.map PyData.int), .list (ps.map PyData.int)] ∧ R (.d (.bool true))
theorem w_law_alike {K : PySem.W.Frag} (ds : List PyData) (R : Sv → Prop) (hl : ds.length = 6) (h : S_law_alike ds R) :
    Sw (t_law_alike K (SpD 2 S_law_called) (SpD 3 S_law_leads)) (ds.map Sv.d ++ List.replicate (N_law_alike.length - 6) .no) (fun _ => R (.d .none)) (fun _ s => R s) (fun _ => False) (fun _ => False) := by
  obtain ⟨S, S', news, ps, d, d', ok, ok', lk, o, o', rfl, r⟩ := h
  have hz := ok.size
  have hz' := ok'.size
  have htn := ok.tn
  unfold t_law_alike
  show Sw _ [.d S.D, .d d, .d S'.D, .d d', .d (.list (news.map PyData.int)), .d (.list (ps.map PyData.int)), .no, .no, .no, .no, .no, .no, .no, .no] _ _ _ _
  rcases o with ⟨row, f, fo, rfl⟩ | ⟨ss, so, rfl⟩
  · rcases o' with ⟨row', f', fo', rfl⟩ | ⟨ss', so', rfl⟩
    · obtain ⟨s, run, hf, hrl⟩ := fo
      obtain ⟨s', run', hf', hrl'⟩ := fo'
      obtain ⟨t, rfl, run1⟩ := run_from lk ok run'
      have inS : ∀ k, In S' k → In S k := fun k hk => ⟨hk.1, by have := hk.2; rw [lk.tl] at this; exact this⟩
      have fa := hf.args
      have fa' := hf'.args
      refine sw_seq (sw_ifV (!true || false) (et_orV _ _ (et_notV _ (et_B (ed_isTup (ed_var rfl ⟨_, rfl, _, rfl, rfl, rfl⟩)))) fun _ => ?_) (fun z => Bool.noConfusion z) (fun _ => sw_next ?_))
      · exact et_test (ed_ne (ed_ixTc (ed_var rfl ⟨_, _, rfl, rfl, ed_ixTc (ed_var rfl ⟨_, _, rfl, rfl, _, .str _ _, _, rfl, rfl, by simp⟩)⟩)))
      refine sw_seq (sw_if (et_test (ed_eq (ed_ixTc (ed_var rfl ⟨_, _, rfl, rfl, ed_str ⟨_, .str _ _, _, rfl, fun _ => ?_, fun z => by simp at z⟩⟩)))))
      refine sw_seq (sw_set (ed_new (ew_lc1 row PyData.int (fun k => .int (nu news k)) mon_name tch1 (iw_tup (ed_ixTc (ed_var rfl ⟨_, _, rfl, rfl, _, rfl, rfl, rfl, small (m := 5000000) hrl⟩))) (fun k hk => ?_) ⟨_, rfl, lt_r rfl, ?_⟩)))
      · have hk' := run.mem k hk
        exact sg_name (lt_r rfl) (ed_ixL (ed_var rfl ⟨_, rfl, ed_var rfl ⟨_, _, rfl, atI_map PyData.int (atI_of hk'.1 (nu_get lk hk')), rfl, rfl⟩⟩))
      have e1 : (row.map fun k => PyData.int (nu news k)) = (row.map (nu news)).map PyData.int := by rw [List.map_map]; rfl
      rw [e1]
      refine sw_seq (sw_set (ed_new (ew_lc1 row' PyData.int (fun k => .int (inv news k)) mon_name tch1 (iw_tup (ed_ixTc (ed_var rfl ⟨_, _, rfl, rfl, _, rfl, rfl, rfl, small (m := 5000000) hrl'⟩))) (fun k hk => ?_) ⟨_, rfl, lt_r rfl, ?_⟩)))
      · have hk' := inS k (run'.mem k hk)
        exact sg_name (lt_r rfl) (ed_index (ed_var rfl ⟨_, rfl, ed_var rfl ⟨_, rfl, lk.sur k hk'.1 hk'.2, rfl, rfl⟩⟩))
      have e2 : (row'.map fun k => PyData.int (inv news k)) = (row'.map (inv news)).map PyData.int := by rw [List.map_map]; rfl
      rw [e2]
      have e3 : (List.range news.length).map (fun (j : Nat) => PyData.int (inv news (j : Int))) = ((rangeI news.length).map (inv news)).map PyData.int := by
        unfold rangeI
        simp only [List.map_map]
        rfl
      have nuinv : ∀ k, In S k → nu ((rangeI news.length).map (inv news)) k = inv news k := fun k hk => by
        have k0 := hk.1
        have k1 := hk.2
        unfold nu rangeI
        rw [List.map_map, List.getElem?_map, List.getElem?_range (by rw [lk.nlen]; omega)]
        show inv news ((k.toNat : Nat) : Int) = _
        rw [show ((k.toNat : Nat) : Int) = k by omega]
      refine sw_seq (sw_set (ed_ew (ew_call (ea_cons (ed_ixTc (ed_var rfl ⟨_, _, rfl, rfl, ea_cons (ed_new (ew_lc1 (List.range news.length) (fun (j : Nat) => .int (j : Int)) (fun (j : Nat) => .int (inv news (j : Int))) mon_name tch1 (iw_rng (ea_cons (ed_len (es_list (ed_var rfl ⟨_, rfl, ea_nil ⟨news.length, by simp, by rw [lk.nlen]; omega, rfl, rfl, small (m := 20) (by simp; rw [lk.nlen]; omega)⟩⟩))))) (fun k hk => ?_) ⟨_, rfl, ea_nil ⟨rfl, f', (rangeI news.length).map (inv news), by have := fa'.1; omega, ?_, by rw [e3], fun ys hy1 hy2 => ⟨_, rfl, lt_r rfl, ?_⟩⟩⟩))⟩))))))
      · have hk' := List.mem_range.mp hk
        rw [lk.nlen] at hk'
        exact sg_name (lt_r rfl) (ed_index (ed_var rfl ⟨_, rfl, ed_var rfl ⟨_, rfl, lk.sur _ (by omega) (by omega), rfl, rfl⟩⟩))
      · intro k hk
        have := inS k (fa'.2 k hk)
        rw [List.length_map, rangeI_len, lk.nlen]
        exact this
      · have hy1' : ys.Perm (f'.2.map (inv news)) := by
          rw [← List.map_congr_left fun k hk => nuinv k (inS k (fa'.2 k hk))]
          exact hy1
        refine sw_retd (ed_andV (ed_ew (ew_call (ea_cons (ed_var rfl (ea_cons (ed_var rfl (ea_cons (ed_ew (ew_call (ea_cons (ed_ixTc (ed_var rfl ⟨_, _, rfl, rfl, ea_cons (ed_var rfl (ea_nil ⟨rfl, f, news, by have := fa.1; omega, ?_, rfl, fun zs hz1 hz2 => ⟨_, rfl, ea_nil ⟨rfl, S', row.map (nu news), mv ps s, (f.1, zs), ok', run_to lk ok run, isF_to lk (run.sok ok) hf hz1 hz2, by rw [List.length_map]; exact hrl, rfl, _, rfl, _, rfl, fun _ => ?_, fun z => Bool.noConfusion z⟩⟩⟩))⟩)))))))))))))
        · intro k hk
          have := fa.2 k hk
          rw [lk.nlen]
          exact this
        · exact ed_ew (ew_call (ea_cons (ed_var rfl (ea_cons (ed_var rfl (ea_cons (ed_var rfl (ea_nil ⟨rfl, S, row'.map (inv news), t, (f'.1, ys), ok, run1, isF_from lk (run1.sok ok) hf' hy1' hy2, by rw [List.length_map]; exact hrl', rfl, _, rfl, r⟩))))))))
    · exact (fall_sound lk ok fo so').elim
  · rcases o' with ⟨row', f', fo', rfl⟩ | ⟨ss', so', rfl⟩
    · exact (sound_fall lk ok so fo').elim
    · refine sw_seq (sw_ifV (!true || false) (et_orV _ _ (et_notV _ (et_B (ed_isTup (ed_var rfl ⟨_, rfl, _, rfl, rfl, rfl⟩)))) fun _ => ?_) (fun z => Bool.noConfusion z) (fun _ => sw_next ?_))
      · exact et_test (ed_ne (ed_ixTc (ed_var rfl ⟨_, _, rfl, rfl, ed_ixTc (ed_var rfl ⟨_, _, rfl, rfl, _, .str _ _, _, rfl, rfl, by simp⟩)⟩)))
      have hne : decide (Str.ofString "sound" = Str.ofString "fall") = false := by decide +kernel
      refine sw_seq (sw_if (et_test (ed_eq (ed_ixTc (ed_var rfl ⟨_, _, rfl, rfl, ed_str ⟨_, .str _ _, _, rfl, fun z => ?_, fun _ => sw_next ?_⟩⟩)))))
      · rw [hne] at z; cases z
      obtain ⟨ys, ey, hy⟩ := sort_code sD ss
      obtain ⟨ys', ey', hy'⟩ := sort_code sD ss'
      have hyl : ys.length ≤ 5000000 := by rw [hy.length_eq]; exact so.len
      have hmem : ∀ t ∈ ys, Sok S t := fun t ht => by
        obtain ⟨row, rn⟩ := (so.mem t).mp (hy.mem_iff.mp ht)
        exact rn.sok ok
      refine sw_seq (sw_set (ed_new (ew_lc1 ys sD (fun t => sD (mv ps t)) mon2 tch2 (iw_tup (ed_ixTc (ed_var rfl ⟨_, _, rfl, rfl, _, rfl, rfl, ey, small (m := 5000000) hyl⟩))) (fun t ht => ?_) ⟨_, rfl, lt_r rfl, ?_⟩)))
      · have st := hmem t ht
        refine sg_tup ⟨_, rfl, rfl, sgs_cons (sg_name (lt_r rfl) (sgs_cons (sg_name (lt_r rfl) (sgs_nil ?_))))⟩
        refine ed_tup (ea_cons (ed_tupC (es_new (ew_lc1 ps PyData.int (fun q => .int (t.1[q.toNat]?.getD 0)) mon_name tch1 (iw_list (ed_var rfl ⟨_, rfl, rfl, rfl, small (m := 22) (by rw [lk.pl]; omega)⟩)) (fun q hq => ?_) ⟨_, rfl, rfl, ea_cons (ed_var rfl (ea_nil ⟨smallr rfl, rfl, (mv_D ps t).symm⟩))⟩))))
        obtain ⟨q0, q1⟩ := lk.pr q hq
        have hg : t.1[q.toNat]? = some (t.1[q.toNat]?.getD 0) := by rw [List.getElem?_eq_getElem (by rw [st.ml]; omega)]; rfl
        exact sg_name (lt_r rfl) (ed_ixT (ed_var rfl ⟨_, rfl, ed_var rfl ⟨_, _, rfl, atI_map PyData.int (atI_of q0 hg), rfl, rfl⟩⟩))
      have e4 : (ys.map fun t => sD (mv ps t)) = (ys.map (mv ps)).map sD := by rw [List.map_map]; rfl
      rw [e4]
      refine sw_retd (ed_eqD (ed_ixTc (ed_var rfl ⟨_, _, rfl, rfl, ed_tupC (es_new (ew_sorted (es_list (ed_var rfl ⟨_, rfl, fun x hx x' hx' => ?_, .inl fun x hx => ?_, by rw [List.length_map, List.length_map, sizeLine_eq]; omega, fun x hx => ?_, _, rfl, rfl, ?_⟩))))⟩)))
      · obtain ⟨a, _, rfl⟩ := List.mem_map.mp hx
        obtain ⟨b, _, rfl⟩ := List.mem_map.mp hx'
        exact alike_stand _ _
      · obtain ⟨a, _, rfl⟩ := List.mem_map.mp hx
        exact ⟨_, _, rfl⟩
      · obtain ⟨a, _, rfl⟩ := List.mem_map.mp hx
        exact depth_stand _
      · have e5 : sortD ((ys.map (mv ps)).map sD) = sortD (ss'.map sD) := sorted_same (((hy.map (mv ps)).trans (sound_perm lk ok so so').symm))
        rw [e5, ey']
        refine ⟨shaped_standsT _, shaped_standsT _, ?_⟩
        have : PyData.eqv (.tuple (ys'.map sD)) (.tuple (ys'.map sD)) = true := by
          simp only [PyData.eqv]
          exact eqv_stands ys'
        rw [this]
        exact r
end G

/-! ## part 31 -/
set_option Elab.async false
set_option linter.all false
set_option maxRecDepth 100000
set_option maxHeartbeats 1000000
namespace G
open PySem PySem.Spec PyProof.Rows L2
/-! ### the two other sheets are like it -/
theorem idx_inj {α : Type} [DecidableEq α] {xs : List α} {x y : α} (hx : x ∈ xs) (hy : y ∈ xs) (e : xs.idxOf x = xs.idxOf y) : x = y := by
  have a := (idx_first hx).1
  have b := (idx_first hy).1
  rw [e, b] at a
  exact (Option.some.inj a).symm
section
variable {S : Sheet} {os ps : List Int} {sp : List Spot}
theorem perm_len {n : Nat} (h : os.Perm (rangeI n)) : os.length = n := by rw [h.length_eq, rangeI_len]
theorem newOf_in (ho : os.Perm (rangeI S.turns.length)) {k : Int} (hk : In S k) : In S (newOf os k) := by
  have hm : k ∈ os := ho.mem_iff.mpr (mem_rangeI.mpr hk)
  have := List.idxOf_lt_length_iff.mpr hm
  rw [perm_len ho] at this
  unfold newOf In
  omega
theorem nu_news (ho : os.Perm (rangeI S.turns.length)) {k : Int} (hk : In S k) : nu (newsOf os) k = newOf os k := by
  have k0 := hk.1
  have k1 := hk.2
  unfold nu newsOf rangeI
  rw [List.map_map, List.getElem?_map, List.getElem?_range (by rw [perm_len ho]; omega)]
  show newOf os ((k.toNat : Nat) : Int) = _
  rw [show ((k.toNat : Nat) : Int) = k by omega]
theorem Ren.mem (ho : os.Perm (rangeI S.turns.length)) {xs ys : List Int} (h : ys.Perm (xs.map (newOf os))) (hx : ∀ k ∈ xs, In S k) {k : Int} (hk : In S k) : newOf os k ∈ ys ↔ k ∈ xs := by
  rw [h.mem_iff, List.mem_map]
  constructor
  · rintro ⟨j, hj, e⟩
    have e' : os.idxOf j = os.idxOf k := by unfold newOf at e; omega
    have := idx_inj (ho.mem_iff.mpr (mem_rangeI.mpr (hx j hj))) (ho.mem_iff.mpr (mem_rangeI.mpr hk)) e'
    rw [← this]; exact hj
  · exact fun h => ⟨k, h, rfl⟩
theorem turnAt_map (ho : os.Perm (rangeI S.turns.length)) {k : Int} (hk : In S k) : turnAt ⟨S.wires, os.map (turnAt S), sp⟩ (newOf os k) = turnAt S k := by
  have hm : k ∈ os := ho.mem_iff.mpr (mem_rangeI.mpr hk)
  have e := (idx_first hm).1
  show ((os.map (turnAt S))[((os.idxOf k : Nat) : Int).toNat]?).getD _ = _
  rw [show ((os.idxOf k : Nat) : Int).toNat = os.idxOf k by omega, List.getElem?_map, e]
  rfl
theorem like_numbered (ok : Ok S) (ho : os.Perm (rangeI S.turns.length)) (hp : ps.Perm (rangeI S.spots.length)) (hl : sp.length = ps.length) (hr : ∀ (i : Nat) q p', ps[i]? = some q → sp[i]? = some p' → Ren os (spotAt S q) p') :
    Like S ⟨S.wires, os.map (turnAt S), sp⟩ (newsOf os) ps := by
  have hol := perm_len ho
  have nd : os.Nodup := ho.symm.nodup (rangeI_nodup _)
  refine ⟨rfl, by rw [List.length_map, hol], by unfold newsOf; rw [List.length_map, rangeI_len, hol], fun k hk => ?_, ?_, fun k h0 h1 => ?_, fun k h0 h1 => ?_, hl.symm, fun q hq => mem_rangeI.mp (hp.mem_iff.mp hq), fun q h0 h1 => hp.mem_iff.mpr (mem_rangeI.mpr ⟨h0, h1⟩), fun i q p' hq hs => ?_⟩
  · obtain ⟨j, hj, rfl⟩ := List.mem_map.mp hk
    have := mem_rangeI.mp hj
    rw [hol] at this
    exact newOf_in ho this
  · unfold newsOf
    rw [List.Nodup, List.pairwise_map]
    refine List.Pairwise.imp_of_mem (fun {a b} ha hb hab e => hab ?_) (rangeI_nodup _)
    have ha' := mem_rangeI.mp ha
    have hb' := mem_rangeI.mp hb
    rw [hol] at ha' hb'
    have e' : os.idxOf a = os.idxOf b := by unfold newOf at e; omega
    exact idx_inj (ho.mem_iff.mpr (mem_rangeI.mpr ha')) (ho.mem_iff.mpr (mem_rangeI.mpr hb')) e'
  · have hkl : k.toNat < os.length := by rw [hol]; omega
    refine List.mem_map.mpr ⟨os[k.toNat], ?_, ?_⟩
    · have := mem_rangeI.mp (ho.mem_iff.mp (List.getElem_mem hkl))
      rw [hol]; exact mem_rangeI.mpr this
    · unfold newOf
      rw [nd.idxOf_getElem]
      omega
  · rw [nu_news ho ⟨h0, h1⟩]
    exact turnAt_map ho ⟨h0, h1⟩
  · have := hr i q p' hq hs
    have hqr := mem_rangeI.mp (hp.mem_iff.mp (List.mem_of_getElem? hq))
    have hsm := spotAt_mem hqr.1 hqr.2
    refine ⟨this.mark, fun k h0 h1 => ?_⟩
    rw [nu_news ho ⟨h0, h1⟩]
    exact ⟨Ren.mem ho this.bf (ok.bf _ hsm) ⟨h0, h1⟩, Ren.mem ho this.bh (ok.bh _ hsm) ⟨h0, h1⟩⟩
theorem ok_numbered (ok : Ok S) (ho : os.Perm (rangeI S.turns.length)) (hp : ps.Perm (rangeI S.spots.length)) (hl : sp.length = ps.length) (hr : ∀ (i : Nat) q p', ps[i]? = some q → sp[i]? = some p' → Ren os (spotAt S q) p') :
    Ok ⟨S.wires, os.map (turnAt S), sp⟩ := by
  have hol := perm_len ho
  have hpl := perm_len hp
  have tl : (Sheet.mk S.wires (os.map (turnAt S)) sp).turns.length = S.turns.length := by show (os.map _).length = _; rw [List.length_map, hol]
  have get : ∀ p' ∈ sp, ∃ q : Int, spotAt S q ∈ S.spots ∧ Ren os (spotAt S q) p' := fun p' hp' => by
    obtain ⟨i, hi⟩ := List.getElem?_of_mem hp'
    have hil := (List.getElem?_eq_some_iff.mp hi).1
    have hq : ps[i]? = some (ps[i]'(by omega)) := List.getElem?_eq_getElem _
    have hqr := mem_rangeI.mp (hp.mem_iff.mp (List.mem_of_getElem? hq))
    exact ⟨_, spotAt_mem hqr.1 hqr.2, hr i _ p' hq hi⟩
  have rng : ∀ {xs ys : List Int}, ys.Perm (xs.map (newOf os)) → (∀ k ∈ xs, In S k) → ∀ k ∈ ys, In S k := fun h hx k hk => by
    obtain ⟨j, hj, rfl⟩ := List.mem_map.mp (h.mem_iff.mp hk)
    exact newOf_in ho (hx j hj)
  refine ⟨fun p' hp' => ?_, fun p' hp' => ?_, fun p' hp' => ?_, fun p' hp' => ?_, fun t ht => ?_, ok.val, fun t ht => ?_, fun p' hp' => ?_, ?_, ?_, ?_⟩
  · obtain ⟨q, hq, h⟩ := get p' hp'
    rw [tl]
    exact rng h.bf (ok.bf _ hq)
  · obtain ⟨q, hq, h⟩ := get p' hp'
    rw [tl]
    exact rng h.bh (ok.bh _ hq)
  · obtain ⟨q, hq, h⟩ := get p' hp'
    rw [h.bf.length_eq, List.length_map]
    exact ok.bfl _ hq
  · obtain ⟨q, hq, h⟩ := get p' hp'
    rw [h.bh.length_eq, List.length_map]
    exact ok.bhl _ hq
  · obtain ⟨k, hk, rfl⟩ := List.mem_map.mp ht
    have := mem_rangeI.mp (ho.mem_iff.mp hk)
    exact ok.nm _ (turnAt_mem this.1 this.2)
  · obtain ⟨k, hk, rfl⟩ := List.mem_map.mp ht
    have := mem_rangeI.mp (ho.mem_iff.mp hk)
    exact ok.way _ (turnAt_mem this.1 this.2)
  · obtain ⟨q, hq, h⟩ := get p' hp'
    rw [h.mark]
    exact ok.mark _ hq
  · rw [tl]; exact ok.tn
  · show sp.length + S.wires.length ≤ 22
    have := ok.size
    omega
  · show 1 ≤ sp.length
    have := ok.sn
    omega
theorem nu_range {n : Nat} {k : Int} (h0 : 0 ≤ k) (h1 : k < n) : nu (rangeI n) k = k := by
  unfold nu rangeI
  rw [List.getElem?_map, List.getElem?_range (by omega)]
  show ((k.toNat : Nat) : Int) = k
  omega
def twice (S : Sheet) (a : Int) : Sheet := ⟨S.wires, S.turns, S.spots ++ [spotAt S a]⟩
theorem like_twice {a : Int} (h0 : 0 ≤ a) (h1 : a < S.spots.length) : Like S (twice S a) (rangeI S.turns.length) (rangeI S.spots.length ++ [a]) := by
  refine ⟨rfl, rfl, rangeI_len _, fun k hk => mem_rangeI.mp hk, rangeI_nodup _, fun k h0 h1 => mem_rangeI.mpr ⟨h0, h1⟩, fun k h0 h1 => ?_, ?_, fun q hq => ?_, fun q h0 h1 => List.mem_append_left _ (mem_rangeI.mpr ⟨h0, h1⟩), fun i q p' hq hs => ?_⟩
  · rw [nu_range h0 h1]; rfl
  · show _ = (S.spots ++ [_]).length
    rw [List.length_append, List.length_append, rangeI_len]; rfl
  · rcases List.mem_append.mp hq with hq | hq
    · exact mem_rangeI.mp hq
    · have : q = a := by simpa using hq
      subst this
      exact ⟨h0, h1⟩
  · have e : p' = spotAt S q := by
      have hs' : (S.spots ++ [spotAt S a])[i]? = some p' := hs
      by_cases c : i < S.spots.length
      · rw [List.getElem?_append_left c] at hs'
        rw [List.getElem?_append_left (by rw [rangeI_len]; exact c)] at hq
        unfold rangeI at hq
        rw [List.getElem?_map, List.getElem?_range c] at hq
        have hq' : q = (i : Int) := (Option.some.inj hq).symm
        have := spotAt_get (S := S) (k := q) (by omega) (by omega)
        rw [hq', show ((i : Nat) : Int).toNat = i by omega, hs'] at this
        rw [hq']
        exact Option.some.inj this
      · have hil := (List.getElem?_eq_some_iff.mp hs').1
        rw [List.length_append, List.length_singleton] at hil
        have hi : i = S.spots.length := by omega
        subst hi
        rw [List.getElem?_append_right (Nat.le_refl _), Nat.sub_self] at hs'
        rw [List.getElem?_append_right (by rw [rangeI_len]; exact Nat.le_refl _), rangeI_len, Nat.sub_self] at hq
        have e1 : spotAt S a = p' := Option.some.inj hs'
        have e2 : a = q := Option.some.inj hq
        rw [← e1, ← e2]
    subst e
    refine ⟨rfl, fun k h0 h1 => ?_⟩
    rw [nu_range h0 h1]
    exact ⟨Iff.rfl, Iff.rfl⟩
theorem ok_twice (hs : Hs S) {a : Int} (h0 : 0 ≤ a) (h1 : a < S.spots.length) : Ok (twice S a) := by
  have ok := hs.ok
  have hm := spotAt_mem h0 h1
  have mem : ∀ p ∈ (twice S a).spots, p ∈ S.spots := fun p hp => by
    rcases List.mem_append.mp hp with hp | hp
    · exact hp
    · have : p = spotAt S a := by simpa using hp
      rw [this]; exact hm
  refine ⟨fun p hp => ok.bf p (mem p hp), fun p hp => ok.bh p (mem p hp), fun p hp => ok.bfl p (mem p hp), fun p hp => ok.bhl p (mem p hp), ok.nm, ok.val, ok.way, fun p hp => ok.mark p (mem p hp), ok.tn, ?_, ?_⟩
  · show (S.spots ++ [_]).length + S.wires.length ≤ 22
    have := hs.sz
    rw [List.length_append, List.length_singleton]
    omega
  · show 1 ≤ (S.spots ++ [_]).length
    rw [List.length_append, List.length_singleton]
    omega
theorem out_tag {d : PyData} (o : Out S d) : ∃ (tag : Str) (rest : List PyData), d = .tuple (.str tag :: rest) ∧ (tag = Str.ofString "sound" ∨ tag = Str.ofString "fall") ∧ ∀ d', Out S d' → ∃ rest', d' = .tuple (.str tag :: rest') := by
  rcases o with ⟨row, f, ⟨s, r, hf, _⟩, rfl⟩ | ⟨ss, so, rfl⟩
  · refine ⟨_, _, rfl, .inr rfl, fun d' o' => ?_⟩
    rcases o' with ⟨row', f', _, rfl⟩ | ⟨ss, so, rfl⟩
    · exact ⟨_, rfl⟩
    · exact (so.fine _ _ r _ hf).elim
  · refine ⟨_, _, rfl, .inl rfl, fun d' o' => ?_⟩
    rcases o' with ⟨row', f', ⟨s, r, hf, _⟩, rfl⟩ | ⟨ss', so', rfl⟩
    · exact (so.fine _ _ r _ hf).elim
    · exact ⟨_, rfl⟩
end
theorem rngD_eq (n : Nat) : rngD n = (rangeI n).map PyData.int := by
  unfold rngD rangeI
  rw [List.map_map]
  rfl

/-! ### the pen is made -/
def spPen (K : PySem.W.Frag) : Sp := fun vs H Q _ => ∃ (a : Addr) (ns : List Int), vs = [.ref a] ∧ SqL K H a (ns.map V.int) ∧ ns.length ≤ 63 ∧
  ∀ (c p : Addr) (H' : Hp), c ≠ p → H' c = some (.lst (ns.map V.int)) → H' p = some (.lst [.ref c, .int 0, .int 0]) → Q (.ref p) H'
theorem w_law_pen {K : PySem.W.Frag} {vs : List V} {H : Hp} {Q : VK} {E : XK} (h : spPen K vs H Q E) : t_law_pen K { nx := fun _ H' => Q .non H', rt := Q } (start N_law_pen vs) H := by
  obtain ⟨a, ns, rfl, hS, hl, q⟩ := h
  unfold t_law_pen
  have ec : cutV (ns.map V.int) none (some 63) = ns.map V.int := by
    unfold cutV
    have h1 : HT.sIx (ns.map V.int).length (ns.map V.int).length (some 63) = min 63 (ns.map V.int).length := HT.sIx_nat _ _ 63
    rw [h1, HT.sIx_none, List.drop_zero]
    refine List.take_of_length_le ?_
    rw [List.length_map]
    omega
  refine ⟨.ref a, rfl, 63, rfl, a, _, rfl, hS, fun p1 h1 => ⟨p1, _, rfl, .inl (SqL.of upd_same), fun c hc => ?_⟩⟩
  rw [ec] at hc ⊢
  refine ⟨by show 3 ≤ sizeLine; rw [sizeLine_eq]; omega, fun p hp => ?_⟩
  have ne : c ≠ p := fun e => by
    subst e
    rw [upd_same] at hp
    cases hp
  exact q c p _ ne (by rw [upd_ne ne]; exact upd_same) upd_same

/-! ### the law -/
def spLaw (K : PySem.W.Frag) : Sp := fun vs H Q _ => ∃ (a : Addr) (ns : List Int), vs = [.ref a] ∧ SqL K H a (ns.map V.int) ∧ ns.length ≤ 63 ∧ ∀ H', Q (.bl true) H'
theorem pen_step {K : PySem.W.Frag} {u : TS} {D : Ends} {σ : L2.St} {H : Hp} {a : Addr} {ns : List Int} (hσ : σ[0]? = some (some (.ref a))) (hS : SqL K H a (ns.map V.int)) (hl : ns.length ≤ 63)
    (h : ∀ (c p : Addr) (H1 : Hp), c ≠ p → H1 c = some (.lst (ns.map V.int)) → H1 p = some (.lst [.ref c, .int 0, .int 0]) → u D (σ.set 1 (some (.ref p))) H1) : tSeq (tAsg (tCall (spPen K) [] E0 (tCons (tVar 0) tNil)) (gName 1)) u D σ H :=
  ⟨.ref a, hσ, a, ns, rfl, hS, hl, fun c p H1 ne ec ep => h c p H1 ne ec ep⟩
theorem w_law {K : PySem.W.Frag} {vs : List V} {H : Hp} {Q : VK} {E : XK} (h : spLaw K vs H Q E) : t_law K (spPen K) (SpP 0 S_law_sheet) (SpP 1 S_law_order) (SpP 1 S_law_draw) (SpD 1 S_sound) (SpD 3 S_law_numbered) (SpD 6 S_law_alike) { nx := fun _ H' => Q .non H', rt := Q } (start N_law vs) H := by
  obtain ⟨a, ns, rfl, hS, hl, q⟩ := h
  unfold t_law
  refine pen_step rfl hS hl fun c p H1 ne ec ep => ?_
  have S0 : Sl (upd (fun _ => none) c (.lst (ns.map V.int))) (fun _ => none) (Sv.no :: .o (Op p 0) :: List.replicate 9 .no) (upd (fun _ => none) c (.lst (ns.map V.int))) ((start N_law [.ref a]).set 1 (some (.ref p))) H1 := by
    have nB : upd (fun _ => none) c (HO.lst (ns.map V.int)) p = none := by rw [upd_ne ne.symm]
    refine ⟨Ex.refl _, fun x o e => (by cases e), fun x o e => (by cases e), fun x o e => ?_, rfl, fun i s e => ?_, fun i j u v b hij ei ej => ?_⟩
    · by_cases hx : x = c
      · subst hx
        rw [upd_same] at e
        rw [← e]; exact ec
      · rw [upd_ne hx] at e; cases e
    · match i, e with
      | 0, e => cases e; trivial
      | 1, e =>
        cases e
        refine ⟨p, _, rfl, nB, rfl, ep, ns, 0, 0, ⟨by omega, by omega, by omega⟩, hl, rfl, _, rfl, .cons (.lst upd_same (IsAll.ints ns)) (.cons (.int 0) (.cons (.int 0) .nil))⟩
      | i + 2, e =>
        have : s = .no := by
          have e' : (List.replicate 9 Sv.no)[i]? = some s := e
          have := List.mem_of_getElem? e'
          exact (List.mem_replicate.mp this).2
        subst this
        trivial
    · have only : ∀ {i : Nat} {u : Ow}, (Sv.no :: .o (Op p 0) :: List.replicate 9 Sv.no)[i]? = some (.o u) → i = 1 := fun {i u} e => by
        match i, e with
        | 0, e => cases e
        | 1, e => rfl
        | i + 2, e =>
          have e' : (List.replicate 9 Sv.no)[i]? = some (.o u) := e
          have := (List.mem_replicate.mp (List.mem_of_getElem? e')).2
          cases this
      exact absurd ((only ei).trans (only ej).symm) hij
  refine (?_ : Sw _ [.no, .o (Op p 0), .no, .no, .no, .no, .no, .no, .no, .no, .no] (fun _ => False) (fun _ s => s = .d (.bool true)) (fun _ => False) (fun _ => False)) _ _ _ _ H1 _ S0 (fun _ _ _ _ z => z.elim) (fun Γ' s v B' σ' H' hs T e rv => ?_) (fun _ _ _ _ z => z.elim) (fun _ _ _ _ z => z.elim)
  · refine sw_seq (sw_set (ed_ew (ew_callP rfl (ea_nil ⟨0, rfl, rfl, by omega, rfl, fun m1 S hm1 hs => ⟨_, rfl, lt_r rfl, ?_⟩⟩))))
    have ok := hs.ok
    have htn := ok.tn
    have hsz := ok.size
    have hsn := ok.sn
    refine sw_seq (sw_set (ed_ew (ew_callP rfl (ea_cons (ed_len (es_tup (ed_ixTc (ed_var rfl ⟨_, _, rfl, rfl, _, rfl, ea_nil ⟨m1, rfl, rfl, by omega, S.turns.length, by omega, by simp, fun m2 os hm2 ho => ⟨_, ⟨_, rfl, rfl⟩, lt_r rfl, ?_⟩⟩⟩))))))))
    refine sw_seq (sw_set (ed_ew (ew_callP rfl (ea_cons (ed_len (es_tup (ed_ixTc (ed_var rfl ⟨_, _, rfl, rfl, _, rfl, ea_nil ⟨m2, rfl, rfl, by omega, S.spots.length, by omega, by simp, fun m3 ps hm3 hp => ⟨_, ⟨_, rfl, rfl⟩, lt_r rfl, ?_⟩⟩⟩))))))))
    have hpl := perm_len hp
    refine sw_seq (sw_set (ed_ew (ew_callP rfl (ea_cons (ed_len (es_list (ed_var rfl ⟨_, rfl, ea_nil ⟨m3, rfl, rfl, by omega, ps.length, by omega, by omega, by simp, fun at_ hat => ⟨_, rfl, lt_r rfl, ?_⟩⟩⟩)))))))
    rw [hpl] at hat
    refine sw_seq (sw_set (ed_ew (ew_call (ea_cons (ed_var rfl (ea_nil ⟨rfl, sound_out ok fun d o => ⟨_, rfl, lt_r rfl, ?_⟩⟩))))))
    obtain ⟨tag, rest, rfl, htag, huniq⟩ := out_tag o
    show Sw _ [.no, .o (Op p (m3 + 1)), .d S.D, .d (.list (os.map .int)), .d (.list (ps.map .int)), .d (.int at_), .d (.tuple (.str tag :: rest)), .no, .no, .no, .no] _ _ _ _
    refine sw_seq (sw_ifV (!true || false) (et_orV _ _ (et_notV _ (et_B (ed_isTup (ed_var rfl ⟨_, rfl, _, rfl, rfl, rfl⟩)))) fun _ => ?_) (fun z => Bool.noConfusion z) (fun _ => sw_next ?_))
    · refine et_test (ed_in (ed_ixTc (ed_var rfl ⟨_, .str tag, rfl, atI_ofNat (i := 0) rfl, ed_tup (ea_cons (ed_str (ea_cons (ed_str (ea_nil ⟨smallr rfl, _, .strT tag [Str.ofString "sound", Str.ofString "fall"], _, rfl, rfl, ?_⟩)))))⟩)))
      rcases htag with rfl | rfl <;> simp
    refine sw_seq (sw_asg (ed_ew (ew_call (ea_cons (ed_var rfl (ea_cons (ed_var rfl (ea_cons (ed_var rfl (ea_nil ⟨rfl, S, os, ps, ok, ho, hp, rfl, fun sp hl1 hr1 => ⟨_, rfl, ?_⟩⟩))))))))))
    have lk1 := like_numbered ok ho hp hl1 hr1
    have ok1 := ok_numbered ok ho hp hl1 hr1
    refine sg_tup ⟨_, rfl, rfl, sgs_cons (sg_name (lt_r rfl) (sgs_cons (sg_name (lt_r rfl) (sgs_nil ?_))))⟩
    show Sw _ [.no, .o (Op p (m3 + 1)), .d S.D, .d (.list (os.map .int)), .d (.list (ps.map .int)), .d (.int at_), .d (.tuple (.str tag :: rest)), .d (Sheet.D ⟨S.wires, os.map (turnAt S), sp⟩), .d (.list ((newsOf os).map .int)), .no, .no] _ _ _ _
    refine sw_seq (sw_ifV (!true) (et_notV _ (et_B (ed_ew (ew_call (ea_cons (ed_var rfl (ea_cons (ed_var rfl (ea_cons (ed_var rfl (ea_cons (ed_ew (ew_call (ea_cons (ed_var rfl (ea_nil ⟨rfl, sound_out ok1 fun d1 o1 => ⟨_, rfl, ?_⟩⟩)))))))))))))))) (fun z => Bool.noConfusion z) (fun _ => sw_next ?_))
    · exact ea_cons (ed_var rfl (ea_cons (ed_var rfl (ea_nil ⟨rfl, S, _, newsOf os, ps, _, d1, ok, ok1, lk1, o, o1, rfl, _, rfl, _, rfl, rfl, rfl⟩))))
    have sat := spot_at (S := S) (k := (at_ : Int)) (by omega) (by omega)
    refine sw_seq (sw_set (ed_tup (ea_cons (ed_ixTc (ed_var rfl ⟨_, _, rfl, rfl, ea_cons (ed_ixTc (ed_var rfl ⟨_, _, rfl, rfl, ea_cons (ed_catT (ed_ixTc (ed_var rfl ⟨_, _, rfl, rfl, _, rfl, ed_tup (ea_cons (ed_ixTv rfl (ed_ixTc (ed_var rfl ⟨_, _, rfl, rfl, rfl, _, _, rfl, sat, ea_nil ⟨smallr rfl, _, rfl, ?_, ea_nil ⟨smallr rfl, lt_r rfl, ?_⟩⟩⟩))))⟩)))⟩))⟩)))))
    · rw [List.length_map, sizeLine_eq]; simp; omega
    have etw : PyData.tuple [.tuple (S.wires.map Wire.D), .tuple (S.turns.map Trn.D), .tuple (S.spots.map Spot.D ++ [(spotAt S at_).D])] = (twice S at_).D := by
      unfold twice Sheet.D
      rw [List.map_append]
      rfl
    rw [etw]
    have lk2 := like_twice (S := S) (a := (at_ : Int)) (by omega) (by omega)
    have ok2 := ok_twice hs (a := (at_ : Int)) (by omega) (by omega)
    refine sw_seq (sw_set (ed_new (ew_listRg (ed_len (es_tup (ed_ixTc (ed_var rfl ⟨_, _, rfl, rfl, _, rfl, S.turns.length, by simp, by omega, _, rfl, lt_r rfl, ?_⟩)))))))
    rw [rngD_eq]
    show Sw _ [.no, .o (Op p (m3 + 1)), .d S.D, .d (.list (os.map .int)), .d (.list (ps.map .int)), .d (.int at_), .d (.tuple (.str tag :: rest)), .d (Sheet.D ⟨S.wires, os.map (turnAt S), sp⟩), .d (.list ((newsOf os).map .int)), .d (twice S at_).D, .d (.list ((rangeI S.turns.length).map .int))] _ _ _ _
    refine sw_seq (sw_ifV (!true) (et_notV _ (et_B (ed_ew (ew_call (ea_cons (ed_var rfl (ea_cons (ed_var rfl (ea_cons (ed_var rfl (ea_cons (ed_ew (ew_call (ea_cons (ed_var rfl (ea_nil ⟨rfl, sound_out ok2 fun d2 o2 => ⟨_, rfl, ?_⟩⟩)))))))))))))))) (fun z => Bool.noConfusion z) (fun _ => sw_next ?_))
    · refine ea_cons (ed_var rfl (ea_cons (ed_new (ew_cat (ed_new (ew_listRg (ed_len (es_list (ed_var rfl ⟨_, rfl, S.spots.length, by simp [hpl], by omega, _, rfl, _, rfl, ed_new (ew_lst (ea_cons (ed_var rfl (ea_nil ⟨smallr rfl, _, rfl, _, rfl, ?_, _, rfl, ea_nil ⟨rfl, S, twice S at_, rangeI S.turns.length, rangeI S.spots.length ++ [(at_ : Int)], _, d2, ok, ok2, lk2, o, o2, ?_, _, rfl, _, rfl, rfl, rfl⟩⟩))))⟩)))))))))
      · rw [rngD_len, sizeLine_eq]; simp; omega
      · rw [rngD_eq, List.map_append]
        rfl
    refine sw_retd (ed_eq (ed_ixTc (ed_ew (ew_call (ea_cons (ed_var rfl (ea_nil ⟨rfl, sound_out ok fun d3 o3 => ?_⟩)))))))
    obtain ⟨rest', rfl⟩ := huniq d3 o3
    refine ⟨_, rfl, _, .str tag, rfl, atI_ofNat (i := 0) rfl, ed_ixTc (ed_var rfl ⟨_, .str tag, rfl, atI_ofNat (i := 0) rfl, _, .str _ _, ?_⟩)⟩
    simp
  · subst hs
    have rv' : Is B' v (.bool true) := rv
    cases rv'
    exact q H'
end G

/-! ## part 32 -/
set_option Elab.async false
set_option linter.all false
set_option maxRecDepth 100000
set_option maxHeartbeats 4000000
namespace G
open PySem PySem.Spec PyProof.Rows L2
section
variable {P : Program} {w : World} {K : PySem.W.Frag} {mg : Str → Option Value} {base : Heap} {f : Addr} {fd : FuncData}
theorem ok_first_of (F : Fun K "first_of" "first_of" s_first_of f fd) (g : mg "first_of" = some (.ref f)) (M : Blt mg) : Cal P w K mg base 1 "first_of" ["sheet"] (SpD 1 S_first_of) :=
  ⟨f, fd, fnD (n := 1) (t_first_of K) F sc_first_of rfl (by decide) (fun cdv A outer s H hr => b_first_of M cdv A outer s H f hr) (fun ds R hl h => w_first_of ds R hl h), F.kp, F.binds fun _ _ _ _ _ _ us hl => match us, hl with | [_], _ => rfl, g⟩
theorem ok_may_turn (F : Fun K "may_turn" "may_turn" s_may_turn f fd) (g : mg "may_turn" = some (.ref f)) (M : Blt mg) : Cal P w K mg base 1 "may_turn" ["sheet", "marks"] (SpD 2 S_may_turn) :=
  ⟨f, fd, fnD (n := 2) (t_may_turn K) F sc_may_turn rfl (by decide) (fun cdv A outer s H hr => b_may_turn M cdv A outer s H f hr) (fun ds R hl h => w_may_turn ds R hl h), F.kp, F.binds fun _ _ _ _ _ _ us hl => match us, hl with | [_, _], _ => rfl, g⟩
theorem ok_behind (F : Fun K "behind" "behind" s_behind f fd) (g : mg "behind" = some (.ref f)) (M : Blt mg) : Cal P w K mg base 1 "behind" ["sheet", "stand", "k"] (SpD 3 S_behind) :=
  ⟨f, fd, fnD (n := 3) (t_behind K) F sc_behind rfl (by decide) (fun cdv A outer s H hr => b_behind M cdv A outer s H f hr) (fun ds R hl h => w_behind ds R hl h), F.kp, F.binds fun _ _ _ _ _ _ us hl => match us, hl with | [_, _, _], _ => rfl, g⟩
theorem ok_both_taken (F : Fun K "both_taken" "both_taken" s_both_taken f fd) (g : mg "both_taken" = some (.ref f)) (M : Blt mg) : Cal P w K mg base 1 "both_taken" ["sheet", "j", "k"] (SpD 3 S_both_taken) :=
  ⟨f, fd, fnD (n := 3) (t_both_taken K) F sc_both_taken rfl (by decide) (fun cdv A outer s H hr => b_both_taken M cdv A outer s H f hr) (fun ds R hl h => w_both_taken ds R hl h), F.kp, F.binds fun _ _ _ _ _ _ us hl => match us, hl with | [_, _, _], _ => rfl, g⟩
theorem ok_is_ask (F : Fun K "is_ask" "is_ask" s_is_ask f fd) (g : mg "is_ask" = some (.ref f)) (M : Blt mg) : Cal P w K mg base 1 "is_ask" ["sheet", "k"] (SpD 2 S_is_ask) :=
  ⟨f, fd, fnD (n := 2) (t_is_ask K) F sc_is_ask rfl (by decide) (fun cdv A outer s H hr => b_is_ask M cdv A outer s H f hr) (fun ds R hl h => w_is_ask ds R hl h), F.kp, F.binds fun _ _ _ _ _ _ us hl => match us, hl with | [_, _], _ => rfl, g⟩
theorem ok_is_crowd (F : Fun K "is_crowd" "is_crowd" s_is_crowd f fd) (g : mg "is_crowd" = some (.ref f)) (M : Blt mg) : Cal P w K mg base 1 "is_crowd" ["sheet", "marks", "k"] (SpD 3 S_is_crowd) :=
  ⟨f, fd, fnD (n := 3) (t_is_crowd K) F sc_is_crowd rfl (by decide) (fun cdv A outer s H hr => b_is_crowd M cdv A outer s H f hr) (fun ds R hl h => w_is_crowd ds R hl h), F.kp, F.binds fun _ _ _ _ _ _ us hl => match us, hl with | [_, _, _], _ => rfl, g⟩
theorem ok_value_of (F : Fun K "value_of" "value_of" s_value_of f fd) (g : mg "value_of" = some (.ref f)) (M : Blt mg) : Cal P w K mg base 1 "value_of" ["sheet", "values", "name"] (SpD 3 S_value_of) :=
  ⟨f, fd, fnD (n := 3) (t_value_of K) F sc_value_of rfl (by decide) (fun cdv A outer s H hr => b_value_of M cdv A outer s H f hr) (fun ds R hl h => w_value_of ds R hl h), F.kp, F.binds fun _ _ _ _ _ _ us hl => match us, hl with | [_, _, _], _ => rfl, g⟩
theorem ok_pair_faults (F : Fun K "pair_faults" "pair_faults" s_pair_faults f fd) (g : mg "pair_faults" = some (.ref f)) (M : Blt mg) (c_both_taken : Cal P w K mg base 1 "both_taken" ["sheet", "j", "k"] (SpD 3 S_both_taken)) (c_is_ask : Cal P w K mg base 1 "is_ask" ["sheet", "k"] (SpD 2 S_is_ask)) : Cal P w K mg base 2 "pair_faults" ["sheet", "may"] (SpD 2 S_pair_faults) :=
  ⟨f, fd, fnD (n := 2) (t_pair_faults K (SpD 3 S_both_taken) (SpD 2 S_is_ask)) F sc_pair_faults rfl (by decide) (fun cdv A outer s H hr => b_pair_faults M c_both_taken c_is_ask cdv A outer s H f hr) (fun ds R hl h => w_pair_faults ds R hl h), F.kp, F.binds fun _ _ _ _ _ _ us hl => match us, hl with | [_, _], _ => rfl, g⟩
theorem ok_faults_at (F : Fun K "faults_at" "faults_at" s_faults_at f fd) (g : mg "faults_at" = some (.ref f)) (M : Blt mg) (c_may_turn : Cal P w K mg base 1 "may_turn" ["sheet", "marks"] (SpD 2 S_may_turn)) (c_pair_faults : Cal P w K mg base 2 "pair_faults" ["sheet", "may"] (SpD 2 S_pair_faults)) (c_is_crowd : Cal P w K mg base 1 "is_crowd" ["sheet", "marks", "k"] (SpD 3 S_is_crowd)) (c_value_of : Cal P w K mg base 1 "value_of" ["sheet", "values", "name"] (SpD 3 S_value_of)) : Cal P w K mg base 3 "faults_at" ["sheet", "stand"] (SpD 2 S_faults_at) :=
  ⟨f, fd, fnD (n := 2) (t_faults_at K (SpD 2 S_may_turn) (SpD 2 S_pair_faults) (SpD 3 S_is_crowd) (SpD 3 S_value_of)) F sc_faults_at rfl (by decide) (fun cdv A outer s H hr => b_faults_at M c_may_turn c_pair_faults c_is_crowd c_value_of cdv A outer s H f hr) (fun ds R hl h => w_faults_at ds R hl h), F.kp, F.binds fun _ _ _ _ _ _ us hl => match us, hl with | [_, _], _ => rfl, g⟩
theorem ok_sound (F : Fun K "sound" "sound" s_sound f fd) (g : mg "sound" = some (.ref f)) (M : Blt mg) (c_first_of : Cal P w K mg base 1 "first_of" ["sheet"] (SpD 1 S_first_of)) (c_faults_at : Cal P w K mg base 3 "faults_at" ["sheet", "stand"] (SpD 2 S_faults_at)) (c_may_turn : Cal P w K mg base 1 "may_turn" ["sheet", "marks"] (SpD 2 S_may_turn)) (c_behind : Cal P w K mg base 1 "behind" ["sheet", "stand", "k"] (SpD 3 S_behind)) : Cal P w K mg base 4 "sound" ["sheet"] (SpD 1 S_sound) :=
  ⟨f, fd, fnD (n := 1) (t_sound P w K (SpD 1 S_first_of) (SpD 2 S_faults_at) (SpD 2 S_may_turn) (SpD 3 S_behind)) F sc_sound rfl (by decide) (fun cdv A outer s H hr => b_sound M c_first_of c_faults_at c_may_turn c_behind cdv A outer s H f hr) (fun ds R hl h => w_sound ds R hl h), F.kp, F.binds fun _ _ _ _ _ _ us hl => match us, hl with | [_], _ => rfl, g⟩
theorem ok_law_pen (F : Fun K "_law_pen" "_law_pen" s_law_pen f fd) (g : mg "_law_pen" = some (.ref f)) (M : Blt mg) : Cal P w K mg base 1 "_law_pen" ["_law_script"] (spPen K) :=
  ⟨f, fd, F.ok sc_law_pen (fun vs H Q E ⟨_, _, e, _⟩ => by rw [e]; rfl) (fun cdv A outer s H vs Q E hr h => ⟨t_law_pen K, b_law_pen M cdv A outer s H f hr, w_law_pen h⟩), F.kp, F.binds fun _ _ _ _ _ _ us hl => match us, hl with | [_], _ => rfl, g⟩
theorem ok_law_draw (F : Fun K "_law_draw" "_law_draw" s_law_draw f fd) (g : mg "_law_draw" = some (.ref f)) (M : Blt mg) : Cal P w K mg base 1 "_law_draw" ["_law_pen_here", "_law_many"] (SpP 1 S_law_draw) :=
  ⟨f, fd, fnP (n := 1) (t_law_draw K) F sc_law_draw rfl (by decide) (fun cdv A outer s H hr => b_law_draw M cdv A outer s H f hr) (fun p m ds R hl h => w_law_draw p m ds R hl h), F.kp, F.binds fun _ _ _ _ _ _ us hl => match us, hl with | [_, _], _ => rfl, g⟩
theorem ok_law_names (F : Fun K "_law_names" "_law_names" s_law_names f fd) (g : mg "_law_names" = some (.ref f)) (M : Blt mg) (c_law_draw : Cal P w K mg base 1 "_law_draw" ["_law_pen_here", "_law_many"] (SpP 1 S_law_draw)) : Cal P w K mg base 2 "_law_names" ["_law_pen_here", "_law_many"] (SpP 1 S_law_names) :=
  ⟨f, fd, fnP (n := 1) (t_law_names K (SpP 1 S_law_draw)) F sc_law_names rfl (by decide) (fun cdv A outer s H hr => b_law_names M c_law_draw cdv A outer s H f hr) (fun p m ds R hl h => w_law_names p m ds R hl h), F.kp, F.binds fun _ _ _ _ _ _ us hl => match us, hl with | [_, _], _ => rfl, g⟩
theorem ok_law_word (F : Fun K "_law_word" "_law_word" s_law_word f fd) (g : mg "_law_word" = some (.ref f)) (M : Blt mg) (c_law_draw : Cal P w K mg base 1 "_law_draw" ["_law_pen_here", "_law_many"] (SpP 1 S_law_draw)) : Cal P w K mg base 2 "_law_word" ["_law_pen_here", "_law_names_here", "_law_rounds"] (SpP 2 S_law_word) :=
  ⟨f, fd, fnP (n := 2) (t_law_word K (SpP 1 S_law_draw)) F sc_law_word rfl (by decide) (fun cdv A outer s H hr => b_law_word M c_law_draw cdv A outer s H f hr) (fun p m ds R hl h => w_law_word p m ds R hl h), F.kp, F.binds fun _ _ _ _ _ _ us hl => match us, hl with | [_, _, _], _ => rfl, g⟩
theorem ok_law_chains (F : Fun K "_law_chains" "_law_chains" s_law_chains f fd) (g : mg "_law_chains" = some (.ref f)) (M : Blt mg) : Cal P w K mg base 1 "_law_chains" ["_law_turns"] (SpD 1 S_law_chains) :=
  ⟨f, fd, fnD (n := 1) (t_law_chains P w K) F sc_law_chains rfl (by decide) (fun cdv A outer s H hr => b_law_chains M cdv A outer s H f hr) (fun ds R hl h => w_law_chains ds R hl h), F.kp, F.binds fun _ _ _ _ _ _ us hl => match us, hl with | [_], _ => rfl, g⟩
theorem ok_law_joined (F : Fun K "_law_joined" "_law_joined" s_law_joined f fd) (g : mg "_law_joined" = some (.ref f)) (M : Blt mg) (c_law_draw : Cal P w K mg base 1 "_law_draw" ["_law_pen_here", "_law_many"] (SpP 1 S_law_draw)) : Cal P w K mg base 2 "_law_joined" ["_law_pen_here", "_law_turns", "_law_many"] (SpP 2 S_law_joined) :=
  ⟨f, fd, fnP (n := 2) (t_law_joined K (SpP 1 S_law_draw)) F sc_law_joined rfl (by decide) (fun cdv A outer s H hr => b_law_joined M c_law_draw cdv A outer s H f hr) (fun p m ds R hl h => w_law_joined p m ds R hl h), F.kp, F.binds fun _ _ _ _ _ _ us hl => match us, hl with | [_, _, _], _ => rfl, g⟩
theorem ok_law_of_word (F : Fun K "_law_of_word" "_law_of_word" s_law_of_word f fd) (g : mg "_law_of_word" = some (.ref f)) (M : Blt mg) (c_law_names : Cal P w K mg base 2 "_law_names" ["_law_pen_here", "_law_many"] (SpP 1 S_law_names)) (c_law_word : Cal P w K mg base 2 "_law_word" ["_law_pen_here", "_law_names_here", "_law_rounds"] (SpP 2 S_law_word)) (c_law_chains : Cal P w K mg base 1 "_law_chains" ["_law_turns"] (SpD 1 S_law_chains)) (c_law_joined : Cal P w K mg base 2 "_law_joined" ["_law_pen_here", "_law_turns", "_law_many"] (SpP 2 S_law_joined)) : Cal P w K mg base 3 "_law_of_word" ["_law_pen_here", "_law_way"] (SpP 1 S_law_of_word) :=
  ⟨f, fd, fnP (n := 1) (t_law_of_word K (SpP 1 S_law_names) (SpP 2 S_law_word) (SpD 1 S_law_chains) (SpP 2 S_law_joined)) F sc_law_of_word rfl (by decide) (fun cdv A outer s H hr => b_law_of_word M c_law_names c_law_word c_law_chains c_law_joined cdv A outer s H f hr) (fun p m ds R hl h => w_law_of_word p m ds R hl h), F.kp, F.binds fun _ _ _ _ _ _ us hl => match us, hl with | [_, _], _ => rfl, g⟩
theorem ok_law_choice (F : Fun K "_law_choice" "_law_choice" s_law_choice f fd) (g : mg "_law_choice" = some (.ref f)) (M : Blt mg) (c_law_draw : Cal P w K mg base 1 "_law_draw" ["_law_pen_here", "_law_many"] (SpP 1 S_law_draw)) : Cal P w K mg base 2 "_law_choice" ["_law_pen_here", "_law_names_here"] (SpP 1 S_law_choice) :=
  ⟨f, fd, fnP (n := 1) (t_law_choice K (SpP 1 S_law_draw)) F sc_law_choice rfl (by decide) (fun cdv A outer s H hr => b_law_choice M c_law_draw cdv A outer s H f hr) (fun p m ds R hl h => w_law_choice p m ds R hl h), F.kp, F.binds fun _ _ _ _ _ _ us hl => match us, hl with | [_, _], _ => rfl, g⟩
theorem ok_law_beside (F : Fun K "_law_beside" "_law_beside" s_law_beside f fd) (g : mg "_law_beside" = some (.ref f)) (M : Blt mg) : Cal P w K mg base 1 "_law_beside" ["_law_one", "_law_other"] (SpD 2 S_law_beside) :=
  ⟨f, fd, fnD (n := 2) (t_law_beside K) F sc_law_beside rfl (by decide) (fun cdv A outer s H hr => b_law_beside M cdv A outer s H f hr) (fun ds R hl h => w_law_beside ds R hl h), F.kp, F.binds fun _ _ _ _ _ _ us hl => match us, hl with | [_, _], _ => rfl, g⟩
theorem ok_law_by_choice (F : Fun K "_law_by_choice" "_law_by_choice" s_law_by_choice f fd) (g : mg "_law_by_choice" = some (.ref f)) (M : Blt mg) (c_law_draw : Cal P w K mg base 1 "_law_draw" ["_law_pen_here", "_law_many"] (SpP 1 S_law_draw)) (c_law_names : Cal P w K mg base 2 "_law_names" ["_law_pen_here", "_law_many"] (SpP 1 S_law_names)) (c_law_choice : Cal P w K mg base 2 "_law_choice" ["_law_pen_here", "_law_names_here"] (SpP 1 S_law_choice)) (c_law_word : Cal P w K mg base 2 "_law_word" ["_law_pen_here", "_law_names_here", "_law_rounds"] (SpP 2 S_law_word)) (c_law_chains : Cal P w K mg base 1 "_law_chains" ["_law_turns"] (SpD 1 S_law_chains)) (c_law_joined : Cal P w K mg base 2 "_law_joined" ["_law_pen_here", "_law_turns", "_law_many"] (SpP 2 S_law_joined)) (c_law_beside : Cal P w K mg base 1 "_law_beside" ["_law_one", "_law_other"] (SpD 2 S_law_beside)) : Cal P w K mg base 3 "_law_by_choice" ["_law_pen_here"] (SpP 0 S_law_by_choice) :=
  ⟨f, fd, fnP (n := 0) (t_law_by_choice K (SpP 1 S_law_draw) (SpP 1 S_law_names) (SpP 1 S_law_choice) (SpP 2 S_law_word) (SpD 1 S_law_chains) (SpP 2 S_law_joined) (SpD 2 S_law_beside)) F sc_law_by_choice rfl (by decide) (fun cdv A outer s H hr => b_law_by_choice M c_law_draw c_law_names c_law_choice c_law_word c_law_chains c_law_joined c_law_beside cdv A outer s H f hr) (fun p m ds R hl h => w_law_by_choice p m ds R hl h), F.kp, F.binds fun _ _ _ _ _ _ us hl => match us, hl with | [_], _ => rfl, g⟩
theorem ok_law_order (F : Fun K "_law_order" "_law_order" s_law_order f fd) (g : mg "_law_order" = some (.ref f)) (M : Blt mg) (c_law_draw : Cal P w K mg base 1 "_law_draw" ["_law_pen_here", "_law_many"] (SpP 1 S_law_draw)) : Cal P w K mg base 2 "_law_order" ["_law_pen_here", "_law_many"] (SpP 1 S_law_order) :=
  ⟨f, fd, fnP (n := 1) (t_law_order K (SpP 1 S_law_draw)) F sc_law_order rfl (by decide) (fun cdv A outer s H hr => b_law_order M c_law_draw cdv A outer s H f hr) (fun p m ds R hl h => w_law_order p m ds R hl h), F.kp, F.binds fun _ _ _ _ _ _ us hl => match us, hl with | [_, _], _ => rfl, g⟩
theorem ok_law_numbered (F : Fun K "_law_numbered" "_law_numbered" s_law_numbered f fd) (g : mg "_law_numbered" = some (.ref f)) (M : Blt mg) : Cal P w K mg base 1 "_law_numbered" ["_law_sheet_here", "_law_order_here", "_law_places"] (SpD 3 S_law_numbered) :=
  ⟨f, fd, fnD (n := 3) (t_law_numbered K) F sc_law_numbered rfl (by decide) (fun cdv A outer s H hr => b_law_numbered M cdv A outer s H f hr) (fun ds R hl h => w_law_numbered ds R hl h), F.kp, F.binds fun _ _ _ _ _ _ us hl => match us, hl with | [_, _, _], _ => rfl, g⟩
theorem ok_law_may (F : Fun K "_law_may" "_law_may" s_law_may f fd) (g : mg "_law_may" = some (.ref f)) (M : Blt mg) : Cal P w K mg base 1 "_law_may" ["_law_sheet_here", "_law_marks"] (SpD 2 S_law_may) :=
  ⟨f, fd, fnD (n := 2) (t_law_may K) F sc_law_may rfl (by decide) (fun cdv A outer s H hr => b_law_may M cdv A outer s H f hr) (fun ds R hl h => w_law_may ds R hl h), F.kp, F.binds fun _ _ _ _ _ _ us hl => match us, hl with | [_, _], _ => rfl, g⟩
theorem ok_law_behind (F : Fun K "_law_behind" "_law_behind" s_law_behind f fd) (g : mg "_law_behind" = some (.ref f)) (M : Blt mg) : Cal P w K mg base 1 "_law_behind" ["_law_sheet_here", "_law_stand", "_law_k"] (SpD 3 S_law_behind) :=
  ⟨f, fd, fnD (n := 3) (t_law_behind K) F sc_law_behind rfl (by decide) (fun cdv A outer s H hr => b_law_behind M cdv A outer s H f hr) (fun ds R hl h => w_law_behind ds R hl h), F.kp, F.binds fun _ _ _ _ _ _ us hl => match us, hl with | [_, _, _], _ => rfl, g⟩
theorem ok_law_faults (F : Fun K "_law_faults" "_law_faults" s_law_faults f fd) (g : mg "_law_faults" = some (.ref f)) (M : Blt mg) (c_law_may : Cal P w K mg base 1 "_law_may" ["_law_sheet_here", "_law_marks"] (SpD 2 S_law_may)) : Cal P w K mg base 2 "_law_faults" ["_law_sheet_here", "_law_stand"] (SpD 2 S_law_faults) :=
  ⟨f, fd, fnD (n := 2) (t_law_faults K (SpD 2 S_law_may)) F sc_law_faults rfl (by decide) (fun cdv A outer s H hr => b_law_faults M c_law_may cdv A outer s H f hr) (fun ds R hl h => w_law_faults ds R hl h), F.kp, F.binds fun _ _ _ _ _ _ us hl => match us, hl with | [_, _], _ => rfl, g⟩
theorem ok_law_stands (F : Fun K "_law_stands" "_law_stands" s_law_stands f fd) (g : mg "_law_stands" = some (.ref f)) (M : Blt mg) (c_law_faults : Cal P w K mg base 2 "_law_faults" ["_law_sheet_here", "_law_stand"] (SpD 2 S_law_faults)) (c_law_may : Cal P w K mg base 1 "_law_may" ["_law_sheet_here", "_law_marks"] (SpD 2 S_law_may)) (c_law_behind : Cal P w K mg base 1 "_law_behind" ["_law_sheet_here", "_law_stand", "_law_k"] (SpD 3 S_law_behind)) : Cal P w K mg base 3 "_law_stands" ["_law_sheet_here", "_law_most"] (SpD 2 (S_law_stands P w)) :=
  ⟨f, fd, fnD (n := 2) (t_law_stands P w K (SpD 2 S_law_faults) (SpD 2 S_law_may) (SpD 3 S_law_behind)) F sc_law_stands rfl (by decide) (fun cdv A outer s H hr => b_law_stands M c_law_faults c_law_may c_law_behind cdv A outer s H f hr) (fun ds R hl h => w_law_stands ds R hl h), F.kp, F.binds fun _ _ _ _ _ _ us hl => match us, hl with | [_, _], _ => rfl, g⟩
theorem ok_law_with (F : Fun K "_law_with" "_law_with" s_law_with f fd) (g : mg "_law_with" = some (.ref f)) (M : Blt mg) : Cal P w K mg base 1 "_law_with" ["_law_some", "_law_at", "_law_one"] (SpD 3 S_law_with) :=
  ⟨f, fd, fnD (n := 3) (t_law_with K) F sc_law_with rfl (by decide) (fun cdv A outer s H hr => b_law_with M cdv A outer s H f hr) (fun ds R hl h => w_law_with ds R hl h), F.kp, F.binds fun _ _ _ _ _ _ us hl => match us, hl with | [_, _, _], _ => rfl, g⟩
theorem ok_law_spoilt (F : Fun K "_law_spoilt" "_law_spoilt" s_law_spoilt f fd) (g : mg "_law_spoilt" = some (.ref f)) (M : Blt mg) (c_law_draw : Cal P w K mg base 1 "_law_draw" ["_law_pen_here", "_law_many"] (SpP 1 S_law_draw)) (c_law_with : Cal P w K mg base 1 "_law_with" ["_law_some", "_law_at", "_law_one"] (SpD 3 S_law_with)) : Cal P w K mg base 2 "_law_spoilt" ["_law_pen_here", "_law_sheet_here"] (SpP 1 S_law_spoilt) :=
  ⟨f, fd, fnP (n := 1) (t_law_spoilt w K (SpP 1 S_law_draw) (SpD 3 S_law_with)) F sc_law_spoilt rfl (by decide) (fun cdv A outer s H hr => b_law_spoilt M c_law_draw c_law_with cdv A outer s H f hr) (fun p m ds R hl h => w_law_spoilt p m ds R hl h), F.kp, F.binds fun _ _ _ _ _ _ us hl => match us, hl with | [_, _], _ => rfl, g⟩
theorem ok_law_sheet (F : Fun K "_law_sheet" "_law_sheet" s_law_sheet f fd) (g : mg "_law_sheet" = some (.ref f)) (M : Blt mg) (c_law_draw : Cal P w K mg base 1 "_law_draw" ["_law_pen_here", "_law_many"] (SpP 1 S_law_draw)) (c_law_by_choice : Cal P w K mg base 3 "_law_by_choice" ["_law_pen_here"] (SpP 0 S_law_by_choice)) (c_law_of_word : Cal P w K mg base 3 "_law_of_word" ["_law_pen_here", "_law_way"] (SpP 1 S_law_of_word)) (c_law_spoilt : Cal P w K mg base 2 "_law_spoilt" ["_law_pen_here", "_law_sheet_here"] (SpP 1 S_law_spoilt)) (c_law_stands : Cal P w K mg base 3 "_law_stands" ["_law_sheet_here", "_law_most"] (SpD 2 (S_law_stands P w))) : Cal P w K mg base 4 "_law_sheet" ["_law_pen_here"] (SpP 0 S_law_sheet) :=
  ⟨f, fd, fnP (n := 0) (t_law_sheet K (SpP 1 S_law_draw) (SpP 0 S_law_by_choice) (SpP 1 S_law_of_word) (SpP 1 S_law_spoilt) (SpD 2 (S_law_stands P w))) F sc_law_sheet rfl (by decide) (fun cdv A outer s H hr => b_law_sheet M c_law_draw c_law_by_choice c_law_of_word c_law_spoilt c_law_stands cdv A outer s H f hr) (fun p m ds R hl h => w_law_sheet p m ds R hl h), F.kp, F.binds fun _ _ _ _ _ _ us hl => match us, hl with | [_], _ => rfl, g⟩
theorem ok_law_leads (F : Fun K "_law_leads" "_law_leads" s_law_leads f fd) (g : mg "_law_leads" = some (.ref f)) (M : Blt mg) (c_first_of : Cal P w K mg base 1 "first_of" ["sheet"] (SpD 1 S_first_of)) (c_faults_at : Cal P w K mg base 3 "faults_at" ["sheet", "stand"] (SpD 2 S_faults_at)) (c_may_turn : Cal P w K mg base 1 "may_turn" ["sheet", "marks"] (SpD 2 S_may_turn)) (c_behind : Cal P w K mg base 1 "behind" ["sheet", "stand", "k"] (SpD 3 S_behind)) : Cal P w K mg base 4 "_law_leads" ["_law_sheet_here", "_law_row", "_law_fault"] (SpD 3 S_law_leads) :=
  ⟨f, fd, fnD (n := 3) (t_law_leads K (SpD 1 S_first_of) (SpD 2 S_faults_at) (SpD 2 S_may_turn) (SpD 3 S_behind)) F sc_law_leads rfl (by decide) (fun cdv A outer s H hr => b_law_leads M c_first_of c_faults_at c_may_turn c_behind cdv A outer s H f hr) (fun ds R hl h => w_law_leads ds R hl h), F.kp, F.binds fun _ _ _ _ _ _ us hl => match us, hl with | [_, _, _], _ => rfl, g⟩
theorem ok_law_called (F : Fun K "_law_called" "_law_called" s_law_called f fd) (g : mg "_law_called" = some (.ref f)) (M : Blt mg) : Cal P w K mg base 1 "_law_called" ["_law_fault", "_law_news"] (SpD 2 S_law_called) :=
  ⟨f, fd, fnD (n := 2) (t_law_called K) F sc_law_called rfl (by decide) (fun cdv A outer s H hr => b_law_called M cdv A outer s H f hr) (fun ds R hl h => w_law_called ds R hl h), F.kp, F.binds fun _ _ _ _ _ _ us hl => match us, hl with | [_, _], _ => rfl, g⟩
theorem ok_law_alike (F : Fun K "_law_alike" "_law_alike" s_law_alike f fd) (g : mg "_law_alike" = some (.ref f)) (M : Blt mg) (c_law_called : Cal P w K mg base 1 "_law_called" ["_law_fault", "_law_news"] (SpD 2 S_law_called)) (c_law_leads : Cal P w K mg base 4 "_law_leads" ["_law_sheet_here", "_law_row", "_law_fault"] (SpD 3 S_law_leads)) : Cal P w K mg base 5 "_law_alike" ["_law_sheet_here", "_law_found", "_law_other", "_law_told", "_law_news", "_law_places"] (SpD 6 S_law_alike) :=
  ⟨f, fd, fnD (n := 6) (t_law_alike K (SpD 2 S_law_called) (SpD 3 S_law_leads)) F sc_law_alike rfl (by decide) (fun cdv A outer s H hr => b_law_alike M c_law_called c_law_leads cdv A outer s H f hr) (fun ds R hl h => w_law_alike ds R hl h), F.kp, F.binds fun _ _ _ _ _ _ us hl => match us, hl with | [_, _, _, _, _, _], _ => rfl, g⟩
theorem fn_law (F : Fun K "law" "law" s_law f fd) (M : Blt mg) (c_law_pen : Cal P w K mg base 1 "_law_pen" ["_law_script"] (spPen K)) (c_law_sheet : Cal P w K mg base 4 "_law_sheet" ["_law_pen_here"] (SpP 0 S_law_sheet)) (c_law_order : Cal P w K mg base 2 "_law_order" ["_law_pen_here", "_law_many"] (SpP 1 S_law_order)) (c_law_draw : Cal P w K mg base 1 "_law_draw" ["_law_pen_here", "_law_many"] (SpP 1 S_law_draw)) (c_sound : Cal P w K mg base 4 "sound" ["sheet"] (SpD 1 S_sound)) (c_law_numbered : Cal P w K mg base 1 "_law_numbered" ["_law_sheet_here", "_law_order_here", "_law_places"] (SpD 3 S_law_numbered)) (c_law_alike : Cal P w K mg base 5 "_law_alike" ["_law_sheet_here", "_law_found", "_law_other", "_law_told", "_law_news", "_law_places"] (SpD 6 S_law_alike)) : FnOk P w K mg base CX0 6 f fd ["_law_script"] (spLaw K) :=
  F.ok sc_law (fun vs H Q E ⟨_, _, e, _⟩ => by rw [e]; rfl) (fun cdv A outer s H vs Q E hr h => ⟨t_law K (spPen K) (SpP 0 S_law_sheet) (SpP 1 S_law_order) (SpP 1 S_law_draw) (SpD 1 S_sound) (SpD 3 S_law_numbered) (SpD 6 S_law_alike), b_law M c_law_pen c_law_sheet c_law_order c_law_draw c_sound c_law_numbered c_law_alike cdv A outer s H f hr, w_law h⟩)
end
theorem all_mk {l : PySem.W.OpenLaw} {w : World} {K : PySem.W.Frag} {h : Heap} {mg : Str → Option Value} {fa : Addr} (X : K.In h) (G : h.Ns mainGlobals mg) (hfa : mg "law" = some (.ref fa))
    {f_first_of : Addr} {od_first_of an_first_of : Option Addr} {sl_first_of : Array (Option Value)} {oc_first_of kV_first_of dc_first_of pm_first_of cd_first_of ct_first_of : Value}
    {f_may_turn : Addr} {od_may_turn an_may_turn : Option Addr} {sl_may_turn : Array (Option Value)} {oc_may_turn kV_may_turn dc_may_turn pm_may_turn cd_may_turn ct_may_turn : Value}
    {f_behind : Addr} {od_behind an_behind : Option Addr} {sl_behind : Array (Option Value)} {oc_behind kV_behind dc_behind pm_behind cd_behind ct_behind : Value}
    {f_both_taken : Addr} {od_both_taken an_both_taken : Option Addr} {sl_both_taken : Array (Option Value)} {oc_both_taken kV_both_taken dc_both_taken pm_both_taken cd_both_taken ct_both_taken : Value}
    {f_is_ask : Addr} {od_is_ask an_is_ask : Option Addr} {sl_is_ask : Array (Option Value)} {oc_is_ask kV_is_ask dc_is_ask pm_is_ask cd_is_ask ct_is_ask : Value}
    {f_is_crowd : Addr} {od_is_crowd an_is_crowd : Option Addr} {sl_is_crowd : Array (Option Value)} {oc_is_crowd kV_is_crowd dc_is_crowd pm_is_crowd cd_is_crowd ct_is_crowd : Value}
    {f_value_of : Addr} {od_value_of an_value_of : Option Addr} {sl_value_of : Array (Option Value)} {oc_value_of kV_value_of dc_value_of pm_value_of cd_value_of ct_value_of : Value}
    {f_pair_faults : Addr} {od_pair_faults an_pair_faults : Option Addr} {sl_pair_faults : Array (Option Value)} {oc_pair_faults kV_pair_faults dc_pair_faults pm_pair_faults cd_pair_faults ct_pair_faults : Value}
    {f_faults_at : Addr} {od_faults_at an_faults_at : Option Addr} {sl_faults_at : Array (Option Value)} {oc_faults_at kV_faults_at dc_faults_at pm_faults_at cd_faults_at ct_faults_at : Value}
    {f_sound : Addr} {od_sound an_sound : Option Addr} {sl_sound : Array (Option Value)} {oc_sound kV_sound dc_sound pm_sound cd_sound ct_sound : Value}
    {f_law_pen : Addr} {od_law_pen an_law_pen : Option Addr} {sl_law_pen : Array (Option Value)} {oc_law_pen kV_law_pen dc_law_pen pm_law_pen cd_law_pen ct_law_pen : Value}
    {f_law_draw : Addr} {od_law_draw an_law_draw : Option Addr} {sl_law_draw : Array (Option Value)} {oc_law_draw kV_law_draw dc_law_draw pm_law_draw cd_law_draw ct_law_draw : Value}
    {f_law_names : Addr} {od_law_names an_law_names : Option Addr} {sl_law_names : Array (Option Value)} {oc_law_names kV_law_names dc_law_names pm_law_names cd_law_names ct_law_names : Value}
    {f_law_word : Addr} {od_law_word an_law_word : Option Addr} {sl_law_word : Array (Option Value)} {oc_law_word kV_law_word dc_law_word pm_law_word cd_law_word ct_law_word : Value}
    {f_law_chains : Addr} {od_law_chains an_law_chains : Option Addr} {sl_law_chains : Array (Option Value)} {oc_law_chains kV_law_chains dc_law_chains pm_law_chains cd_law_chains ct_law_chains : Value}
    {f_law_joined : Addr} {od_law_joined an_law_joined : Option Addr} {sl_law_joined : Array (Option Value)} {oc_law_joined kV_law_joined dc_law_joined pm_law_joined cd_law_joined ct_law_joined : Value}
    {f_law_of_word : Addr} {od_law_of_word an_law_of_word : Option Addr} {sl_law_of_word : Array (Option Value)} {oc_law_of_word kV_law_of_word dc_law_of_word pm_law_of_word cd_law_of_word ct_law_of_word : Value}
    {f_law_choice : Addr} {od_law_choice an_law_choice : Option Addr} {sl_law_choice : Array (Option Value)} {oc_law_choice kV_law_choice dc_law_choice pm_law_choice cd_law_choice ct_law_choice : Value}
    {f_law_beside : Addr} {od_law_beside an_law_beside : Option Addr} {sl_law_beside : Array (Option Value)} {oc_law_beside kV_law_beside dc_law_beside pm_law_beside cd_law_beside ct_law_beside : Value}
    {f_law_by_choice : Addr} {od_law_by_choice an_law_by_choice : Option Addr} {sl_law_by_choice : Array (Option Value)} {oc_law_by_choice kV_law_by_choice dc_law_by_choice pm_law_by_choice cd_law_by_choice ct_law_by_choice : Value}
    {f_law_order : Addr} {od_law_order an_law_order : Option Addr} {sl_law_order : Array (Option Value)} {oc_law_order kV_law_order dc_law_order pm_law_order cd_law_order ct_law_order : Value}
    {f_law_numbered : Addr} {od_law_numbered an_law_numbered : Option Addr} {sl_law_numbered : Array (Option Value)} {oc_law_numbered kV_law_numbered dc_law_numbered pm_law_numbered cd_law_numbered ct_law_numbered : Value}
    {f_law_may : Addr} {od_law_may an_law_may : Option Addr} {sl_law_may : Array (Option Value)} {oc_law_may kV_law_may dc_law_may pm_law_may cd_law_may ct_law_may : Value}
    {f_law_behind : Addr} {od_law_behind an_law_behind : Option Addr} {sl_law_behind : Array (Option Value)} {oc_law_behind kV_law_behind dc_law_behind pm_law_behind cd_law_behind ct_law_behind : Value}
    {f_law_faults : Addr} {od_law_faults an_law_faults : Option Addr} {sl_law_faults : Array (Option Value)} {oc_law_faults kV_law_faults dc_law_faults pm_law_faults cd_law_faults ct_law_faults : Value}
    {f_law_stands : Addr} {od_law_stands an_law_stands : Option Addr} {sl_law_stands : Array (Option Value)} {oc_law_stands kV_law_stands dc_law_stands pm_law_stands cd_law_stands ct_law_stands : Value}
    {f_law_with : Addr} {od_law_with an_law_with : Option Addr} {sl_law_with : Array (Option Value)} {oc_law_with kV_law_with dc_law_with pm_law_with cd_law_with ct_law_with : Value}
    {f_law_spoilt : Addr} {od_law_spoilt an_law_spoilt : Option Addr} {sl_law_spoilt : Array (Option Value)} {oc_law_spoilt kV_law_spoilt dc_law_spoilt pm_law_spoilt cd_law_spoilt ct_law_spoilt : Value}
    {f_law_sheet : Addr} {od_law_sheet an_law_sheet : Option Addr} {sl_law_sheet : Array (Option Value)} {oc_law_sheet kV_law_sheet dc_law_sheet pm_law_sheet cd_law_sheet ct_law_sheet : Value}
    {f_law_leads : Addr} {od_law_leads an_law_leads : Option Addr} {sl_law_leads : Array (Option Value)} {oc_law_leads kV_law_leads dc_law_leads pm_law_leads cd_law_leads ct_law_leads : Value}
    {f_law_called : Addr} {od_law_called an_law_called : Option Addr} {sl_law_called : Array (Option Value)} {oc_law_called kV_law_called dc_law_called pm_law_called cd_law_called ct_law_called : Value}
    {f_law_alike : Addr} {od_law_alike an_law_alike : Option Addr} {sl_law_alike : Array (Option Value)} {oc_law_alike kV_law_alike dc_law_alike pm_law_alike cd_law_alike ct_law_alike : Value}
    {f_law : Addr} {od_law an_law : Option Addr} {sl_law : Array (Option Value)} {oc_law kV_law dc_law pm_law cd_law ct_law : Value}
    (a_first_of : PySem.W.nsIn K mainGlobals "first_of" = some (some (.ref f_first_of))) (l_first_of : K.lookup f_first_of = some ⟨oc_first_of, od_first_of, .func (PySem.W.fnOf "first_of" "first_of" (defArgs s_first_of) (defBody s_first_of) (defScope s_first_of) .none kV_first_of dc_first_of pm_first_of an_first_of cd_first_of ct_first_of), sl_first_of⟩) (c_first_of : PySem.W.codeIn K cd_first_of "first_of" = true) (k_first_of : PySem.W.keepIn K (.ref f_first_of) = true)
    (a_may_turn : PySem.W.nsIn K mainGlobals "may_turn" = some (some (.ref f_may_turn))) (l_may_turn : K.lookup f_may_turn = some ⟨oc_may_turn, od_may_turn, .func (PySem.W.fnOf "may_turn" "may_turn" (defArgs s_may_turn) (defBody s_may_turn) (defScope s_may_turn) .none kV_may_turn dc_may_turn pm_may_turn an_may_turn cd_may_turn ct_may_turn), sl_may_turn⟩) (c_may_turn : PySem.W.codeIn K cd_may_turn "may_turn" = true) (k_may_turn : PySem.W.keepIn K (.ref f_may_turn) = true)
    (a_behind : PySem.W.nsIn K mainGlobals "behind" = some (some (.ref f_behind))) (l_behind : K.lookup f_behind = some ⟨oc_behind, od_behind, .func (PySem.W.fnOf "behind" "behind" (defArgs s_behind) (defBody s_behind) (defScope s_behind) .none kV_behind dc_behind pm_behind an_behind cd_behind ct_behind), sl_behind⟩) (c_behind : PySem.W.codeIn K cd_behind "behind" = true) (k_behind : PySem.W.keepIn K (.ref f_behind) = true)
    (a_both_taken : PySem.W.nsIn K mainGlobals "both_taken" = some (some (.ref f_both_taken))) (l_both_taken : K.lookup f_both_taken = some ⟨oc_both_taken, od_both_taken, .func (PySem.W.fnOf "both_taken" "both_taken" (defArgs s_both_taken) (defBody s_both_taken) (defScope s_both_taken) .none kV_both_taken dc_both_taken pm_both_taken an_both_taken cd_both_taken ct_both_taken), sl_both_taken⟩) (c_both_taken : PySem.W.codeIn K cd_both_taken "both_taken" = true) (k_both_taken : PySem.W.keepIn K (.ref f_both_taken) = true)
    (a_is_ask : PySem.W.nsIn K mainGlobals "is_ask" = some (some (.ref f_is_ask))) (l_is_ask : K.lookup f_is_ask = some ⟨oc_is_ask, od_is_ask, .func (PySem.W.fnOf "is_ask" "is_ask" (defArgs s_is_ask) (defBody s_is_ask) (defScope s_is_ask) .none kV_is_ask dc_is_ask pm_is_ask an_is_ask cd_is_ask ct_is_ask), sl_is_ask⟩) (c_is_ask : PySem.W.codeIn K cd_is_ask "is_ask" = true) (k_is_ask : PySem.W.keepIn K (.ref f_is_ask) = true)
    (a_is_crowd : PySem.W.nsIn K mainGlobals "is_crowd" = some (some (.ref f_is_crowd))) (l_is_crowd : K.lookup f_is_crowd = some ⟨oc_is_crowd, od_is_crowd, .func (PySem.W.fnOf "is_crowd" "is_crowd" (defArgs s_is_crowd) (defBody s_is_crowd) (defScope s_is_crowd) .none kV_is_crowd dc_is_crowd pm_is_crowd an_is_crowd cd_is_crowd ct_is_crowd), sl_is_crowd⟩) (c_is_crowd : PySem.W.codeIn K cd_is_crowd "is_crowd" = true) (k_is_crowd : PySem.W.keepIn K (.ref f_is_crowd) = true)
    (a_value_of : PySem.W.nsIn K mainGlobals "value_of" = some (some (.ref f_value_of))) (l_value_of : K.lookup f_value_of = some ⟨oc_value_of, od_value_of, .func (PySem.W.fnOf "value_of" "value_of" (defArgs s_value_of) (defBody s_value_of) (defScope s_value_of) .none kV_value_of dc_value_of pm_value_of an_value_of cd_value_of ct_value_of), sl_value_of⟩) (c_value_of : PySem.W.codeIn K cd_value_of "value_of" = true) (k_value_of : PySem.W.keepIn K (.ref f_value_of) = true)
    (a_pair_faults : PySem.W.nsIn K mainGlobals "pair_faults" = some (some (.ref f_pair_faults))) (l_pair_faults : K.lookup f_pair_faults = some ⟨oc_pair_faults, od_pair_faults, .func (PySem.W.fnOf "pair_faults" "pair_faults" (defArgs s_pair_faults) (defBody s_pair_faults) (defScope s_pair_faults) .none kV_pair_faults dc_pair_faults pm_pair_faults an_pair_faults cd_pair_faults ct_pair_faults), sl_pair_faults⟩) (c_pair_faults : PySem.W.codeIn K cd_pair_faults "pair_faults" = true) (k_pair_faults : PySem.W.keepIn K (.ref f_pair_faults) = true)
    (a_faults_at : PySem.W.nsIn K mainGlobals "faults_at" = some (some (.ref f_faults_at))) (l_faults_at : K.lookup f_faults_at = some ⟨oc_faults_at, od_faults_at, .func (PySem.W.fnOf "faults_at" "faults_at" (defArgs s_faults_at) (defBody s_faults_at) (defScope s_faults_at) .none kV_faults_at dc_faults_at pm_faults_at an_faults_at cd_faults_at ct_faults_at), sl_faults_at⟩) (c_faults_at : PySem.W.codeIn K cd_faults_at "faults_at" = true) (k_faults_at : PySem.W.keepIn K (.ref f_faults_at) = true)
    (a_sound : PySem.W.nsIn K mainGlobals "sound" = some (some (.ref f_sound))) (l_sound : K.lookup f_sound = some ⟨oc_sound, od_sound, .func (PySem.W.fnOf "sound" "sound" (defArgs s_sound) (defBody s_sound) (defScope s_sound) .none kV_sound dc_sound pm_sound an_sound cd_sound ct_sound), sl_sound⟩) (c_sound : PySem.W.codeIn K cd_sound "sound" = true) (k_sound : PySem.W.keepIn K (.ref f_sound) = true)
    (a_law_pen : PySem.W.nsIn K mainGlobals "_law_pen" = some (some (.ref f_law_pen))) (l_law_pen : K.lookup f_law_pen = some ⟨oc_law_pen, od_law_pen, .func (PySem.W.fnOf "_law_pen" "_law_pen" (defArgs s_law_pen) (defBody s_law_pen) (defScope s_law_pen) .none kV_law_pen dc_law_pen pm_law_pen an_law_pen cd_law_pen ct_law_pen), sl_law_pen⟩) (c_law_pen : PySem.W.codeIn K cd_law_pen "_law_pen" = true) (k_law_pen : PySem.W.keepIn K (.ref f_law_pen) = true)
    (a_law_draw : PySem.W.nsIn K mainGlobals "_law_draw" = some (some (.ref f_law_draw))) (l_law_draw : K.lookup f_law_draw = some ⟨oc_law_draw, od_law_draw, .func (PySem.W.fnOf "_law_draw" "_law_draw" (defArgs s_law_draw) (defBody s_law_draw) (defScope s_law_draw) .none kV_law_draw dc_law_draw pm_law_draw an_law_draw cd_law_draw ct_law_draw), sl_law_draw⟩) (c_law_draw : PySem.W.codeIn K cd_law_draw "_law_draw" = true) (k_law_draw : PySem.W.keepIn K (.ref f_law_draw) = true)
    (a_law_names : PySem.W.nsIn K mainGlobals "_law_names" = some (some (.ref f_law_names))) (l_law_names : K.lookup f_law_names = some ⟨oc_law_names, od_law_names, .func (PySem.W.fnOf "_law_names" "_law_names" (defArgs s_law_names) (defBody s_law_names) (defScope s_law_names) .none kV_law_names dc_law_names pm_law_names an_law_names cd_law_names ct_law_names), sl_law_names⟩) (c_law_names : PySem.W.codeIn K cd_law_names "_law_names" = true) (k_law_names : PySem.W.keepIn K (.ref f_law_names) = true)
    (a_law_word : PySem.W.nsIn K mainGlobals "_law_word" = some (some (.ref f_law_word))) (l_law_word : K.lookup f_law_word = some ⟨oc_law_word, od_law_word, .func (PySem.W.fnOf "_law_word" "_law_word" (defArgs s_law_word) (defBody s_law_word) (defScope s_law_word) .none kV_law_word dc_law_word pm_law_word an_law_word cd_law_word ct_law_word), sl_law_word⟩) (c_law_word : PySem.W.codeIn K cd_law_word "_law_word" = true) (k_law_word : PySem.W.keepIn K (.ref f_law_word) = true)
    (a_law_chains : PySem.W.nsIn K mainGlobals "_law_chains" = some (some (.ref f_law_chains))) (l_law_chains : K.lookup f_law_chains = some ⟨oc_law_chains, od_law_chains, .func (PySem.W.fnOf "_law_chains" "_law_chains" (defArgs s_law_chains) (defBody s_law_chains) (defScope s_law_chains) .none kV_law_chains dc_law_chains pm_law_chains an_law_chains cd_law_chains ct_law_chains), sl_law_chains⟩) (c_law_chains : PySem.W.codeIn K cd_law_chains "_law_chains" = true) (k_law_chains : PySem.W.keepIn K (.ref f_law_chains) = true)
    (a_law_joined : PySem.W.nsIn K mainGlobals "_law_joined" = some (some (.ref f_law_joined))) (l_law_joined : K.lookup f_law_joined = some ⟨oc_law_joined, od_law_joined, .func (PySem.W.fnOf "_law_joined" "_law_joined" (defArgs s_law_joined) (defBody s_law_joined) (defScope s_law_joined) .none kV_law_joined dc_law_joined pm_law_joined an_law_joined cd_law_joined ct_law_joined), sl_law_joined⟩) (c_law_joined : PySem.W.codeIn K cd_law_joined "_law_joined" = true) (k_law_joined : PySem.W.keepIn K (.ref f_law_joined) = true)
    (a_law_of_word : PySem.W.nsIn K mainGlobals "_law_of_word" = some (some (.ref f_law_of_word))) (l_law_of_word : K.lookup f_law_of_word = some ⟨oc_law_of_word, od_law_of_word, .func (PySem.W.fnOf "_law_of_word" "_law_of_word" (defArgs s_law_of_word) (defBody s_law_of_word) (defScope s_law_of_word) .none kV_law_of_word dc_law_of_word pm_law_of_word an_law_of_word cd_law_of_word ct_law_of_word), sl_law_of_word⟩) (c_law_of_word : PySem.W.codeIn K cd_law_of_word "_law_of_word" = true) (k_law_of_word : PySem.W.keepIn K (.ref f_law_of_word) = true)
    (a_law_choice : PySem.W.nsIn K mainGlobals "_law_choice" = some (some (.ref f_law_choice))) (l_law_choice : K.lookup f_law_choice = some ⟨oc_law_choice, od_law_choice, .func (PySem.W.fnOf "_law_choice" "_law_choice" (defArgs s_law_choice) (defBody s_law_choice) (defScope s_law_choice) .none kV_law_choice dc_law_choice pm_law_choice an_law_choice cd_law_choice ct_law_choice), sl_law_choice⟩) (c_law_choice : PySem.W.codeIn K cd_law_choice "_law_choice" = true) (k_law_choice : PySem.W.keepIn K (.ref f_law_choice) = true)
    (a_law_beside : PySem.W.nsIn K mainGlobals "_law_beside" = some (some (.ref f_law_beside))) (l_law_beside : K.lookup f_law_beside = some ⟨oc_law_beside, od_law_beside, .func (PySem.W.fnOf "_law_beside" "_law_beside" (defArgs s_law_beside) (defBody s_law_beside) (defScope s_law_beside) .none kV_law_beside dc_law_beside pm_law_beside an_law_beside cd_law_beside ct_law_beside), sl_law_beside⟩) (c_law_beside : PySem.W.codeIn K cd_law_beside "_law_beside" = true) (k_law_beside : PySem.W.keepIn K (.ref f_law_beside) = true)
    (a_law_by_choice : PySem.W.nsIn K mainGlobals "_law_by_choice" = some (some (.ref f_law_by_choice))) (l_law_by_choice : K.lookup f_law_by_choice = some ⟨oc_law_by_choice, od_law_by_choice, .func (PySem.W.fnOf "_law_by_choice" "_law_by_choice" (defArgs s_law_by_choice) (defBody s_law_by_choice) (defScope s_law_by_choice) .none kV_law_by_choice dc_law_by_choice pm_law_by_choice an_law_by_choice cd_law_by_choice ct_law_by_choice), sl_law_by_choice⟩) (c_law_by_choice : PySem.W.codeIn K cd_law_by_choice "_law_by_choice" = true) (k_law_by_choice : PySem.W.keepIn K (.ref f_law_by_choice) = true)
    (a_law_order : PySem.W.nsIn K mainGlobals "_law_order" = some (some (.ref f_law_order))) (l_law_order : K.lookup f_law_order = some ⟨oc_law_order, od_law_order, .func (PySem.W.fnOf "_law_order" "_law_order" (defArgs s_law_order) (defBody s_law_order) (defScope s_law_order) .none kV_law_order dc_law_order pm_law_order an_law_order cd_law_order ct_law_order), sl_law_order⟩) (c_law_order : PySem.W.codeIn K cd_law_order "_law_order" = true) (k_law_order : PySem.W.keepIn K (.ref f_law_order) = true)
    (a_law_numbered : PySem.W.nsIn K mainGlobals "_law_numbered" = some (some (.ref f_law_numbered))) (l_law_numbered : K.lookup f_law_numbered = some ⟨oc_law_numbered, od_law_numbered, .func (PySem.W.fnOf "_law_numbered" "_law_numbered" (defArgs s_law_numbered) (defBody s_law_numbered) (defScope s_law_numbered) .none kV_law_numbered dc_law_numbered pm_law_numbered an_law_numbered cd_law_numbered ct_law_numbered), sl_law_numbered⟩) (c_law_numbered : PySem.W.codeIn K cd_law_numbered "_law_numbered" = true) (k_law_numbered : PySem.W.keepIn K (.ref f_law_numbered) = true)
    (a_law_may : PySem.W.nsIn K mainGlobals "_law_may" = some (some (.ref f_law_may))) (l_law_may : K.lookup f_law_may = some ⟨oc_law_may, od_law_may, .func (PySem.W.fnOf "_law_may" "_law_may" (defArgs s_law_may) (defBody s_law_may) (defScope s_law_may) .none kV_law_may dc_law_may pm_law_may an_law_may cd_law_may ct_law_may), sl_law_may⟩) (c_law_may : PySem.W.codeIn K cd_law_may "_law_may" = true) (k_law_may : PySem.W.keepIn K (.ref f_law_may) = true)
    (a_law_behind : PySem.W.nsIn K mainGlobals "_law_behind" = some (some (.ref f_law_behind))) (l_law_behind : K.lookup f_law_behind = some ⟨oc_law_behind, od_law_behind, .func (PySem.W.fnOf "_law_behind" "_law_behind" (defArgs s_law_behind) (defBody s_law_behind) (defScope s_law_behind) .none kV_law_behind dc_law_behind pm_law_behind an_law_behind cd_law_behind ct_law_behind), sl_law_behind⟩) (c_law_behind : PySem.W.codeIn K cd_law_behind "_law_behind" = true) (k_law_behind : PySem.W.keepIn K (.ref f_law_behind) = true)
    (a_law_faults : PySem.W.nsIn K mainGlobals "_law_faults" = some (some (.ref f_law_faults))) (l_law_faults : K.lookup f_law_faults = some ⟨oc_law_faults, od_law_faults, .func (PySem.W.fnOf "_law_faults" "_law_faults" (defArgs s_law_faults) (defBody s_law_faults) (defScope s_law_faults) .none kV_law_faults dc_law_faults pm_law_faults an_law_faults cd_law_faults ct_law_faults), sl_law_faults⟩) (c_law_faults : PySem.W.codeIn K cd_law_faults "_law_faults" = true) (k_law_faults : PySem.W.keepIn K (.ref f_law_faults) = true)
    (a_law_stands : PySem.W.nsIn K mainGlobals "_law_stands" = some (some (.ref f_law_stands))) (l_law_stands : K.lookup f_law_stands = some ⟨oc_law_stands, od_law_stands, .func (PySem.W.fnOf "_law_stands" "_law_stands" (defArgs s_law_stands) (defBody s_law_stands) (defScope s_law_stands) .none kV_law_stands dc_law_stands pm_law_stands an_law_stands cd_law_stands ct_law_stands), sl_law_stands⟩) (c_law_stands : PySem.W.codeIn K cd_law_stands "_law_stands" = true) (k_law_stands : PySem.W.keepIn K (.ref f_law_stands) = true)
    (a_law_with : PySem.W.nsIn K mainGlobals "_law_with" = some (some (.ref f_law_with))) (l_law_with : K.lookup f_law_with = some ⟨oc_law_with, od_law_with, .func (PySem.W.fnOf "_law_with" "_law_with" (defArgs s_law_with) (defBody s_law_with) (defScope s_law_with) .none kV_law_with dc_law_with pm_law_with an_law_with cd_law_with ct_law_with), sl_law_with⟩) (c_law_with : PySem.W.codeIn K cd_law_with "_law_with" = true) (k_law_with : PySem.W.keepIn K (.ref f_law_with) = true)
    (a_law_spoilt : PySem.W.nsIn K mainGlobals "_law_spoilt" = some (some (.ref f_law_spoilt))) (l_law_spoilt : K.lookup f_law_spoilt = some ⟨oc_law_spoilt, od_law_spoilt, .func (PySem.W.fnOf "_law_spoilt" "_law_spoilt" (defArgs s_law_spoilt) (defBody s_law_spoilt) (defScope s_law_spoilt) .none kV_law_spoilt dc_law_spoilt pm_law_spoilt an_law_spoilt cd_law_spoilt ct_law_spoilt), sl_law_spoilt⟩) (c_law_spoilt : PySem.W.codeIn K cd_law_spoilt "_law_spoilt" = true) (k_law_spoilt : PySem.W.keepIn K (.ref f_law_spoilt) = true)
    (a_law_sheet : PySem.W.nsIn K mainGlobals "_law_sheet" = some (some (.ref f_law_sheet))) (l_law_sheet : K.lookup f_law_sheet = some ⟨oc_law_sheet, od_law_sheet, .func (PySem.W.fnOf "_law_sheet" "_law_sheet" (defArgs s_law_sheet) (defBody s_law_sheet) (defScope s_law_sheet) .none kV_law_sheet dc_law_sheet pm_law_sheet an_law_sheet cd_law_sheet ct_law_sheet), sl_law_sheet⟩) (c_law_sheet : PySem.W.codeIn K cd_law_sheet "_law_sheet" = true) (k_law_sheet : PySem.W.keepIn K (.ref f_law_sheet) = true)
    (a_law_leads : PySem.W.nsIn K mainGlobals "_law_leads" = some (some (.ref f_law_leads))) (l_law_leads : K.lookup f_law_leads = some ⟨oc_law_leads, od_law_leads, .func (PySem.W.fnOf "_law_leads" "_law_leads" (defArgs s_law_leads) (defBody s_law_leads) (defScope s_law_leads) .none kV_law_leads dc_law_leads pm_law_leads an_law_leads cd_law_leads ct_law_leads), sl_law_leads⟩) (c_law_leads : PySem.W.codeIn K cd_law_leads "_law_leads" = true) (k_law_leads : PySem.W.keepIn K (.ref f_law_leads) = true)
    (a_law_called : PySem.W.nsIn K mainGlobals "_law_called" = some (some (.ref f_law_called))) (l_law_called : K.lookup f_law_called = some ⟨oc_law_called, od_law_called, .func (PySem.W.fnOf "_law_called" "_law_called" (defArgs s_law_called) (defBody s_law_called) (defScope s_law_called) .none kV_law_called dc_law_called pm_law_called an_law_called cd_law_called ct_law_called), sl_law_called⟩) (c_law_called : PySem.W.codeIn K cd_law_called "_law_called" = true) (k_law_called : PySem.W.keepIn K (.ref f_law_called) = true)
    (a_law_alike : PySem.W.nsIn K mainGlobals "_law_alike" = some (some (.ref f_law_alike))) (l_law_alike : K.lookup f_law_alike = some ⟨oc_law_alike, od_law_alike, .func (PySem.W.fnOf "_law_alike" "_law_alike" (defArgs s_law_alike) (defBody s_law_alike) (defScope s_law_alike) .none kV_law_alike dc_law_alike pm_law_alike an_law_alike cd_law_alike ct_law_alike), sl_law_alike⟩) (c_law_alike : PySem.W.codeIn K cd_law_alike "_law_alike" = true) (k_law_alike : PySem.W.keepIn K (.ref f_law_alike) = true)
    (a_law : PySem.W.nsIn K mainGlobals "law" = some (some (.ref f_law))) (l_law : K.lookup f_law = some ⟨oc_law, od_law, .func (PySem.W.fnOf "law" "law" (defArgs s_law) (defBody s_law) (defScope s_law) .none kV_law dc_law pm_law an_law cd_law ct_law), sl_law⟩) (c_law : PySem.W.codeIn K cd_law "law" = true) (k_law : PySem.W.keepIn K (.ref f_law) = true)
    (z_len : PySem.W.nsIn K mainGlobals "len" = some none)
    (z_list : PySem.W.nsIn K mainGlobals "list" = some none)
    (z_tuple : PySem.W.nsIn K mainGlobals "tuple" = some none)
    (z_sorted : PySem.W.nsIn K mainGlobals "sorted" = some none)
    (z_set : PySem.W.nsIn K mainGlobals "set" = some none)
    (z_abs : PySem.W.nsIn K mainGlobals "abs" = some none)
    (z_max : PySem.W.nsIn K mainGlobals "max" = some none)
    (z_min : PySem.W.nsIn K mainGlobals "min" = some none)
    (z_int : PySem.W.nsIn K mainGlobals "int" = some none)
    (z_dict : PySem.W.nsIn K mainGlobals "dict" = some none)
    (z_isinstance : PySem.W.nsIn K mainGlobals "isinstance" = some none)
    (z_zip : PySem.W.nsIn K mainGlobals "zip" = some none)
    (z_enumerate : PySem.W.nsIn K mainGlobals "enumerate" = some none)
    (z_range : PySem.W.nsIn K mainGlobals "range" = some none)
    : ∃ fd : FuncData, (∀ (s : Shared) (v : Value), BindsTo s fd ⟨[v], []⟩ [("_law_script", v)]) ∧ ∀ base : Heap, K.In base → base.Ns mainGlobals mg → FnOk l.prog w K mg base CX0 6 fa fd ["_law_script"] (spLaw K) := by
  have e := hfa.symm.trans (PySem.W.mg_of X G a_law)
  cases e
  have M : Blt mg := ⟨PySem.W.mg_none_of X G z_len, PySem.W.mg_none_of X G z_list, PySem.W.mg_none_of X G z_tuple, PySem.W.mg_none_of X G z_sorted, PySem.W.mg_none_of X G z_set, PySem.W.mg_none_of X G z_abs, PySem.W.mg_none_of X G z_max, PySem.W.mg_none_of X G z_min, PySem.W.mg_none_of X G z_int, PySem.W.mg_none_of X G z_dict, PySem.W.mg_none_of X G z_isinstance, PySem.W.mg_none_of X G z_zip, PySem.W.mg_none_of X G z_enumerate, PySem.W.mg_none_of X G z_range⟩
  refine ⟨PySem.W.fnOf "law" "law" (defArgs s_law) (defBody s_law) (defScope s_law) .none kV_law dc_law pm_law an_law cd_law ct_law, fun s v => .of_eq rfl, fun base _ _ => ?_⟩
  have C_first_of := ok_first_of (P := l.prog) (w := w) (base := base) (fun_mk (st := s_first_of) l_first_of c_first_of k_first_of) (PySem.W.mg_of X G a_first_of) M
  have C_may_turn := ok_may_turn (P := l.prog) (w := w) (base := base) (fun_mk (st := s_may_turn) l_may_turn c_may_turn k_may_turn) (PySem.W.mg_of X G a_may_turn) M
  have C_behind := ok_behind (P := l.prog) (w := w) (base := base) (fun_mk (st := s_behind) l_behind c_behind k_behind) (PySem.W.mg_of X G a_behind) M
  have C_both_taken := ok_both_taken (P := l.prog) (w := w) (base := base) (fun_mk (st := s_both_taken) l_both_taken c_both_taken k_both_taken) (PySem.W.mg_of X G a_both_taken) M
  have C_is_ask := ok_is_ask (P := l.prog) (w := w) (base := base) (fun_mk (st := s_is_ask) l_is_ask c_is_ask k_is_ask) (PySem.W.mg_of X G a_is_ask) M
  have C_is_crowd := ok_is_crowd (P := l.prog) (w := w) (base := base) (fun_mk (st := s_is_crowd) l_is_crowd c_is_crowd k_is_crowd) (PySem.W.mg_of X G a_is_crowd) M
  have C_value_of := ok_value_of (P := l.prog) (w := w) (base := base) (fun_mk (st := s_value_of) l_value_of c_value_of k_value_of) (PySem.W.mg_of X G a_value_of) M
  have C_pair_faults := ok_pair_faults (P := l.prog) (w := w) (base := base) (fun_mk (st := s_pair_faults) l_pair_faults c_pair_faults k_pair_faults) (PySem.W.mg_of X G a_pair_faults) M C_both_taken C_is_ask
  have C_faults_at := ok_faults_at (P := l.prog) (w := w) (base := base) (fun_mk (st := s_faults_at) l_faults_at c_faults_at k_faults_at) (PySem.W.mg_of X G a_faults_at) M C_may_turn C_pair_faults C_is_crowd C_value_of
  have C_sound := ok_sound (P := l.prog) (w := w) (base := base) (fun_mk (st := s_sound) l_sound c_sound k_sound) (PySem.W.mg_of X G a_sound) M C_first_of C_faults_at C_may_turn C_behind
  have C_law_pen := ok_law_pen (P := l.prog) (w := w) (base := base) (fun_mk (st := s_law_pen) l_law_pen c_law_pen k_law_pen) (PySem.W.mg_of X G a_law_pen) M
  have C_law_draw := ok_law_draw (P := l.prog) (w := w) (base := base) (fun_mk (st := s_law_draw) l_law_draw c_law_draw k_law_draw) (PySem.W.mg_of X G a_law_draw) M
  have C_law_names := ok_law_names (P := l.prog) (w := w) (base := base) (fun_mk (st := s_law_names) l_law_names c_law_names k_law_names) (PySem.W.mg_of X G a_law_names) M C_law_draw
  have C_law_word := ok_law_word (P := l.prog) (w := w) (base := base) (fun_mk (st := s_law_word) l_law_word c_law_word k_law_word) (PySem.W.mg_of X G a_law_word) M C_law_draw
  have C_law_chains := ok_law_chains (P := l.prog) (w := w) (base := base) (fun_mk (st := s_law_chains) l_law_chains c_law_chains k_law_chains) (PySem.W.mg_of X G a_law_chains) M
  have C_law_joined := ok_law_joined (P := l.prog) (w := w) (base := base) (fun_mk (st := s_law_joined) l_law_joined c_law_joined k_law_joined) (PySem.W.mg_of X G a_law_joined) M C_law_draw
  have C_law_of_word := ok_law_of_word (P := l.prog) (w := w) (base := base) (fun_mk (st := s_law_of_word) l_law_of_word c_law_of_word k_law_of_word) (PySem.W.mg_of X G a_law_of_word) M C_law_names C_law_word C_law_chains C_law_joined
  have C_law_choice := ok_law_choice (P := l.prog) (w := w) (base := base) (fun_mk (st := s_law_choice) l_law_choice c_law_choice k_law_choice) (PySem.W.mg_of X G a_law_choice) M C_law_draw
  have C_law_beside := ok_law_beside (P := l.prog) (w := w) (base := base) (fun_mk (st := s_law_beside) l_law_beside c_law_beside k_law_beside) (PySem.W.mg_of X G a_law_beside) M
  have C_law_by_choice := ok_law_by_choice (P := l.prog) (w := w) (base := base) (fun_mk (st := s_law_by_choice) l_law_by_choice c_law_by_choice k_law_by_choice) (PySem.W.mg_of X G a_law_by_choice) M C_law_draw C_law_names C_law_choice C_law_word C_law_chains C_law_joined C_law_beside
  have C_law_order := ok_law_order (P := l.prog) (w := w) (base := base) (fun_mk (st := s_law_order) l_law_order c_law_order k_law_order) (PySem.W.mg_of X G a_law_order) M C_law_draw
  have C_law_numbered := ok_law_numbered (P := l.prog) (w := w) (base := base) (fun_mk (st := s_law_numbered) l_law_numbered c_law_numbered k_law_numbered) (PySem.W.mg_of X G a_law_numbered) M
  have C_law_may := ok_law_may (P := l.prog) (w := w) (base := base) (fun_mk (st := s_law_may) l_law_may c_law_may k_law_may) (PySem.W.mg_of X G a_law_may) M
  have C_law_behind := ok_law_behind (P := l.prog) (w := w) (base := base) (fun_mk (st := s_law_behind) l_law_behind c_law_behind k_law_behind) (PySem.W.mg_of X G a_law_behind) M
  have C_law_faults := ok_law_faults (P := l.prog) (w := w) (base := base) (fun_mk (st := s_law_faults) l_law_faults c_law_faults k_law_faults) (PySem.W.mg_of X G a_law_faults) M C_law_may
  have C_law_stands := ok_law_stands (P := l.prog) (w := w) (base := base) (fun_mk (st := s_law_stands) l_law_stands c_law_stands k_law_stands) (PySem.W.mg_of X G a_law_stands) M C_law_faults C_law_may C_law_behind
  have C_law_with := ok_law_with (P := l.prog) (w := w) (base := base) (fun_mk (st := s_law_with) l_law_with c_law_with k_law_with) (PySem.W.mg_of X G a_law_with) M
  have C_law_spoilt := ok_law_spoilt (P := l.prog) (w := w) (base := base) (fun_mk (st := s_law_spoilt) l_law_spoilt c_law_spoilt k_law_spoilt) (PySem.W.mg_of X G a_law_spoilt) M C_law_draw C_law_with
  have C_law_sheet := ok_law_sheet (P := l.prog) (w := w) (base := base) (fun_mk (st := s_law_sheet) l_law_sheet c_law_sheet k_law_sheet) (PySem.W.mg_of X G a_law_sheet) M C_law_draw C_law_by_choice C_law_of_word C_law_spoilt C_law_stands
  have C_law_leads := ok_law_leads (P := l.prog) (w := w) (base := base) (fun_mk (st := s_law_leads) l_law_leads c_law_leads k_law_leads) (PySem.W.mg_of X G a_law_leads) M C_first_of C_faults_at C_may_turn C_behind
  have C_law_called := ok_law_called (P := l.prog) (w := w) (base := base) (fun_mk (st := s_law_called) l_law_called c_law_called k_law_called) (PySem.W.mg_of X G a_law_called) M
  have C_law_alike := ok_law_alike (P := l.prog) (w := w) (base := base) (fun_mk (st := s_law_alike) l_law_alike c_law_alike k_law_alike) (PySem.W.mg_of X G a_law_alike) M C_law_called C_law_leads
  exact fn_law (P := l.prog) (w := w) (base := base) (fun_mk (st := s_law) l_law c_law k_law) M C_law_pen C_law_sheet C_law_order C_law_draw C_sound C_law_numbered C_law_alike
end G
open PySem PySem.W PyProof.Rows
set_option maxHeartbeats 0 in
theorem PySem.Challenge.cw_delaygates_k18_whole_numbered_anew_holds : PySem.Challenge.rw_delaygates_k18_whole_numbered_anew.Holds := by
  w_on; o_law; k_head; (case hw => w_witness2)
  k_fill
  refine L2.walk_of (l := PySem.Challenge.rw_delaygates_k18_whole_numbered_anew) (n := 63) (k := 6) (x := "_law_script") (CX := fun _ => L2.CX0) (sp := fun w => G.spLaw _) rfl (by decide) rfl ⟨rfl, by decide, by decide⟩ (fun w h Y => PySem.W.kIn_of Y) ?F (fun _ _ a ns hl _ hS => ⟨a, ns, rfl, hS, hl, fun _ => rfl⟩) (fun _ _ _ _ _ h => h)
  case F =>
    intro w mg fa h KX GN hmg
    refine' G.all_mk KX GN hmg ?a_first_of ?l_first_of ?c_first_of ?k_first_of ?a_may_turn ?l_may_turn ?c_may_turn ?k_may_turn ?a_behind ?l_behind ?c_behind ?k_behind ?a_both_taken ?l_both_taken ?c_both_taken ?k_both_taken ?a_is_ask ?l_is_ask ?c_is_ask ?k_is_ask ?a_is_crowd ?l_is_crowd ?c_is_crowd ?k_is_crowd ?a_value_of ?l_value_of ?c_value_of ?k_value_of ?a_pair_faults ?l_pair_faults ?c_pair_faults ?k_pair_faults ?a_faults_at ?l_faults_at ?c_faults_at ?k_faults_at ?a_sound ?l_sound ?c_sound ?k_sound ?a_law_pen ?l_law_pen ?c_law_pen ?k_law_pen ?a_law_draw ?l_law_draw ?c_law_draw ?k_law_draw ?a_law_names ?l_law_names ?c_law_names ?k_law_names ?a_law_word ?l_law_word ?c_law_word ?k_law_word ?a_law_chains ?l_law_chains ?c_law_chains ?k_law_chains ?a_law_joined ?l_law_joined ?c_law_joined ?k_law_joined ?a_law_of_word ?l_law_of_word ?c_law_of_word ?k_law_of_word ?a_law_choice ?l_law_choice ?c_law_choice ?k_law_choice ?a_law_beside ?l_law_beside ?c_law_beside ?k_law_beside ?a_law_by_choice ?l_law_by_choice ?c_law_by_choice ?k_law_by_choice ?a_law_order ?l_law_order ?c_law_order ?k_law_order ?a_law_numbered ?l_law_numbered ?c_law_numbered ?k_law_numbered ?a_law_may ?l_law_may ?c_law_may ?k_law_may ?a_law_behind ?l_law_behind ?c_law_behind ?k_law_behind ?a_law_faults ?l_law_faults ?c_law_faults ?k_law_faults ?a_law_stands ?l_law_stands ?c_law_stands ?k_law_stands ?a_law_with ?l_law_with ?c_law_with ?k_law_with ?a_law_spoilt ?l_law_spoilt ?c_law_spoilt ?k_law_spoilt ?a_law_sheet ?l_law_sheet ?c_law_sheet ?k_law_sheet ?a_law_leads ?l_law_leads ?c_law_leads ?k_law_leads ?a_law_called ?l_law_called ?c_law_called ?k_law_called ?a_law_alike ?l_law_alike ?c_law_alike ?k_law_alike ?a_law ?l_law ?c_law ?k_law ?z_len ?z_list ?z_tuple ?z_sorted ?z_set ?z_abs ?z_max ?z_min ?z_int ?z_dict ?z_isinstance ?z_zip ?z_enumerate ?z_range
    (case a_first_of => k_is)
    (case l_first_of => k_is)
    (case c_first_of => k_is)
    (case k_first_of => k_is)
    (case a_may_turn => k_is)
    (case l_may_turn => k_is)
    (case c_may_turn => k_is)
    (case k_may_turn => k_is)
    (case a_behind => k_is)
    (case l_behind => k_is)
    (case c_behind => k_is)
    (case k_behind => k_is)
    (case a_both_taken => k_is)
    (case l_both_taken => k_is)
    (case c_both_taken => k_is)
    (case k_both_taken => k_is)
    (case a_is_ask => k_is)
    (case l_is_ask => k_is)
    (case c_is_ask => k_is)
    (case k_is_ask => k_is)
    (case a_is_crowd => k_is)
    (case l_is_crowd => k_is)
    (case c_is_crowd => k_is)
    (case k_is_crowd => k_is)
    (case a_value_of => k_is)
    (case l_value_of => k_is)
    (case c_value_of => k_is)
    (case k_value_of => k_is)
    (case a_pair_faults => k_is)
    (case l_pair_faults => k_is)
    (case c_pair_faults => k_is)
    (case k_pair_faults => k_is)
    (case a_faults_at => k_is)
    (case l_faults_at => k_is)
    (case c_faults_at => k_is)
    (case k_faults_at => k_is)
    (case a_sound => k_is)
    (case l_sound => k_is)
    (case c_sound => k_is)
    (case k_sound => k_is)
    (case a_law_pen => k_is)
    (case l_law_pen => k_is)
    (case c_law_pen => k_is)
    (case k_law_pen => k_is)
    (case a_law_draw => k_is)
    (case l_law_draw => k_is)
    (case c_law_draw => k_is)
    (case k_law_draw => k_is)
    (case a_law_names => k_is)
    (case l_law_names => k_is)
    (case c_law_names => k_is)
    (case k_law_names => k_is)
    (case a_law_word => k_is)
    (case l_law_word => k_is)
    (case c_law_word => k_is)
    (case k_law_word => k_is)
    (case a_law_chains => k_is)
    (case l_law_chains => k_is)
    (case c_law_chains => k_is)
    (case k_law_chains => k_is)
    (case a_law_joined => k_is)
    (case l_law_joined => k_is)
    (case c_law_joined => k_is)
    (case k_law_joined => k_is)
    (case a_law_of_word => k_is)
    (case l_law_of_word => k_is)
    (case c_law_of_word => k_is)
    (case k_law_of_word => k_is)
    (case a_law_choice => k_is)
    (case l_law_choice => k_is)
    (case c_law_choice => k_is)
    (case k_law_choice => k_is)
    (case a_law_beside => k_is)
    (case l_law_beside => k_is)
    (case c_law_beside => k_is)
    (case k_law_beside => k_is)
    (case a_law_by_choice => k_is)
    (case l_law_by_choice => k_is)
    (case c_law_by_choice => k_is)
    (case k_law_by_choice => k_is)
    (case a_law_order => k_is)
    (case l_law_order => k_is)
    (case c_law_order => k_is)
    (case k_law_order => k_is)
    (case a_law_numbered => k_is)
    (case l_law_numbered => k_is)
    (case c_law_numbered => k_is)
    (case k_law_numbered => k_is)
    (case a_law_may => k_is)
    (case l_law_may => k_is)
    (case c_law_may => k_is)
    (case k_law_may => k_is)
    (case a_law_behind => k_is)
    (case l_law_behind => k_is)
    (case c_law_behind => k_is)
    (case k_law_behind => k_is)
    (case a_law_faults => k_is)
    (case l_law_faults => k_is)
    (case c_law_faults => k_is)
    (case k_law_faults => k_is)
    (case a_law_stands => k_is)
    (case l_law_stands => k_is)
    (case c_law_stands => k_is)
    (case k_law_stands => k_is)
    (case a_law_with => k_is)
    (case l_law_with => k_is)
    (case c_law_with => k_is)
    (case k_law_with => k_is)
    (case a_law_spoilt => k_is)
    (case l_law_spoilt => k_is)
    (case c_law_spoilt => k_is)
    (case k_law_spoilt => k_is)
    (case a_law_sheet => k_is)
    (case l_law_sheet => k_is)
    (case c_law_sheet => k_is)
    (case k_law_sheet => k_is)
    (case a_law_leads => k_is)
    (case l_law_leads => k_is)
    (case c_law_leads => k_is)
    (case k_law_leads => k_is)
    (case a_law_called => k_is)
    (case l_law_called => k_is)
    (case c_law_called => k_is)
    (case k_law_called => k_is)
    (case a_law_alike => k_is)
    (case l_law_alike => k_is)
    (case c_law_alike => k_is)
    (case k_law_alike => k_is)
    (case a_law => k_is)
    (case l_law => k_is)
    (case c_law => k_is)
    (case k_law => k_is)
    (case z_len => k_is)
    (case z_list => k_is)
    (case z_tuple => k_is)
    (case z_sorted => k_is)
    (case z_set => k_is)
    (case z_abs => k_is)
    (case z_max => k_is)
    (case z_min => k_is)
    (case z_int => k_is)
    (case z_dict => k_is)
    (case z_isinstance => k_is)
    (case z_zip => k_is)
    (case z_enumerate => k_is)
    (case z_range => k_is)
