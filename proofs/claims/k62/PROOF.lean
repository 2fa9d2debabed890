import PyProof.Rows.All
import Wide.All
import OpenK.AllK
import Wide.FinOn
import HandS.ForMost
import HandS.ForExc
import HandS.Walk
import HandS.Wide
import HandS.Deep
import HandS.Conv
import HandS.IsInst
import HandS.TupAny
import HandS.CallSlots
import HandS.EndTab
import HandS.Style
import HandS.Flow
import HandS.Rev
import HandS.RevTup
import KE.KRevIter
import HandS.Comp
import HandS.AnyAll
import HandS.GenList
import KE.KNest
import HandS.Text
import HandS.Star
import HandS.TupMul
import HandS.Gcd
import KE.DataMinMax
import KE.SortData
import PySem.Challenge.RW_nightsgiven_k62_whole_nights_together
set_option Elab.async false
set_option linter.all false
set_option maxRecDepth 100000
set_option maxHeartbeats 4000000
/-! FL1: a by-value reading over the hand layer: data in place of heaps. -/
namespace FL
open PySem PySem.Spec PyProof.Rows L2

abbrev D := PyData
/-- what a slot holds: nothing that is known, a datum, a list of its own that may grow, the law's draws, a list only looked at -/
inductive Cel where
  | no | fz (d : D) | ow (ds : List D) | dr | lk (ds : List D)
abbrev Sl := List Cel

/-- a law's own: the tables of code objects that may grow; what its draws are like -/
structure Lw where
  tabs : List Addr
  good : List D → Prop
/-- where a def began: the heap, what of it is told by data, the draws' address -/
structure Beg where
  H0 : Hp
  F0 : Hp
  dr : Option Addr

theorem same_upd {H : Hp} {p : Addr} {o : HO} (h : H p = none) : Same H (upd H p o) := fun b x e => by
  rw [upd_ne (ne_of_none e h)]
  exact e
theorem same_sqT {K : PySem.W.Frag} {H H' : Hp} {a : Addr} {xs : List V} (e : Same H H') (h : SqT K H a xs) : SqT K H' a xs := by
  rcases h with (h | ⟨o, h⟩) | h
  · exact .inl (.inl (e _ _ h))
  · exact .inl (.inr ⟨o, e _ _ h⟩)
  · exact .inr h
/-! what stands at a value, as data (lists: tracked ones) -/
mutual
inductive Dt (K : PySem.W.Frag) (H : Hp) : V → PyData → Prop
  | non : Dt K H .non .none
  | bl (b : Bool) : Dt K H (.bl b) (.bool b)
  | int (i : Int) : Dt K H (.int i) (.int i)
  | str (x : Str) : Dt K H (.str x) (.str x)
  | lst {a : Addr} {xs : List V} {ds : List PyData} : SqL K H a xs → DtAll K H xs ds → Dt K H (.ref a) (.list ds)
  | tup {a : Addr} {xs : List V} {ds : List PyData} : SqT K H a xs → DtAll K H xs ds → Dt K H (.ref a) (.tuple ds)
inductive DtAll (K : PySem.W.Frag) (H : Hp) : List V → List PyData → Prop
  | nil : DtAll K H [] []
  | cons {v : V} {vs : List V} {d : PyData} {ds : List PyData} : Dt K H v d → DtAll K H vs ds → DtAll K H (v :: vs) (d :: ds)
end
theorem same_rd {H H' : Hp} {a : Addr} {u : HO} (e : Same H H') (h : Rd H a u) : Rd H' a u := by
  rcases h with h | ⟨o, h⟩
  · exact .inl (e _ _ h)
  · exact .inr ⟨o, e _ _ h⟩
mutual
theorem dt_dp {K : PySem.W.Frag} {H : Hp} : ∀ {v : V} {d : D}, Dt K H v d → L2.Dp K H v d
  | _, .none, h => by cases h; exact .non
  | _, .bool _, h => by cases h; exact .bl _
  | _, .int _, h => by cases h; exact .int _
  | _, .str _, h => by cases h; exact .str _
  | _, .list ds, h => by
    cases h with
    | lst hs ha => exact .lst hs (dts_dp ha)
  | _, .tuple ds, h => by
    cases h with
    | tup hs ha => exact .tup hs (dts_dp ha)
  | _, .dict _, h => by cases h
theorem dts_dp {K : PySem.W.Frag} {H : Hp} : ∀ {vs : List V} {ds : List D}, DtAll K H vs ds → L2.DpAll K H vs ds
  | _, [], h => by cases h; exact .nil
  | _, _ :: _, h => by
    cases h with
    | cons h1 h2 => exact .cons (dt_dp h1) (dts_dp h2)
end
mutual
theorem dp_mono {K : PySem.W.Frag} {H H' : Hp} (e : Same H H') : ∀ {v : V} {d : D}, Dt K H v d → Dt K H' v d
  | _, .none, h => by cases h; exact .non
  | _, .bool _, h => by cases h; exact .bl _
  | _, .int _, h => by cases h; exact .int _
  | _, .str _, h => by cases h; exact .str _
  | _, .list ds, h => by
    cases h with
    | lst hs ha => exact .lst (e.seq hs) (dps_mono e ha)
  | _, .tuple ds, h => by
    cases h with
    | tup hs ha => exact .tup (same_sqT e hs) (dps_mono e ha)
  | _, .dict _, h => by cases h
theorem dps_mono {K : PySem.W.Frag} {H H' : Hp} (e : Same H H') : ∀ {vs : List V} {ds : List D}, DtAll K H vs ds → DtAll K H' vs ds
  | _, [], h => by cases h; exact .nil
  | _, _ :: _, h => by
    cases h with
    | cons h1 h2 => exact .cons (dp_mono e h1) (dps_mono e h2)
end
section
variable {K : PySem.W.Frag} {H : Hp}
theorem dps_len : ∀ {vs : List V} {ds : List D}, DtAll K H vs ds → vs.length = ds.length
  | _, [], h => by cases h; rfl
  | _, _ :: _, h => by
    cases h with
    | cons h1 h2 => simp [dps_len h2]
theorem dps_app : ∀ {vs : List V} {ds : List D} {us : List V} {es : List D}, DtAll K H vs ds → DtAll K H us es → DtAll K H (vs ++ us) (ds ++ es)
  | _, [], _, _, h, h' => by cases h; exact h'
  | _, _ :: _, _, _, h, h' => by
    cases h with
    | cons h1 h2 => exact .cons h1 (dps_app h2 h')
theorem dps_one {v : V} {d : D} (h : Dt K H v d) : DtAll K H [v] [d] := .cons h .nil
theorem dps_get : ∀ {vs : List V} {ds : List D} {i : Nat} {d : D}, DtAll K H vs ds → ds[i]? = some d → ∃ v, vs[i]? = some v ∧ Dt K H v d
  | _, [], _, _, h, e => by simp at e
  | _, d :: ds, 0, _, h, e => by
    cases h with
    | cons h1 h2 => simp at e; subst e; exact ⟨_, rfl, h1⟩
  | _, d :: ds, i + 1, _, h, e => by
    cases h with
    | cons h1 h2 =>
      obtain ⟨v, e1, e2⟩ := dps_get (i := i) h2 (by simpa using e)
      exact ⟨v, by simpa using e1, e2⟩
theorem dps_getv : ∀ {vs : List V} {ds : List D} {i : Nat} {v : V}, DtAll K H vs ds → vs[i]? = some v → ∃ d, ds[i]? = some d ∧ Dt K H v d
  | _, [], _, _, h, e => by cases h; simp at e
  | _, d :: ds, 0, _, h, e => by
    cases h with
    | cons h1 h2 => simp at e; subst e; exact ⟨_, rfl, h1⟩
  | _, d :: ds, i + 1, _, h, e => by
    cases h with
    | cons h1 h2 =>
      obtain ⟨v, e1, e2⟩ := dps_getv (i := i) h2 (by simpa using e)
      exact ⟨v, by simpa using e1, e2⟩
theorem dps_take : ∀ {vs : List V} {ds : List D} (n : Nat), DtAll K H vs ds → DtAll K H (vs.take n) (ds.take n)
  | _, [], n, h => by cases h; simp; exact .nil
  | _, _ :: _, 0, h => by simp; exact .nil
  | _, _ :: _, n + 1, h => by
    cases h with
    | cons h1 h2 => exact .cons h1 (dps_take n h2)
theorem dps_drop : ∀ {vs : List V} {ds : List D} (n : Nat), DtAll K H vs ds → DtAll K H (vs.drop n) (ds.drop n)
  | _, [], n, h => by cases h; simp; exact .nil
  | _, _ :: _, 0, h => h
  | _, _ :: _, n + 1, h => by
    cases h with
    | cons h1 h2 => exact dps_drop n h2
theorem dps_set {v : V} {d : D} (q : Dt K H v d) : ∀ {vs : List V} {ds : List D} (i : Nat), DtAll K H vs ds → DtAll K H (vs.set i v) (ds.set i d)
  | _, [], i, h => by cases h; exact .nil
  | _, _ :: _, 0, h => by
    cases h with
    | cons h1 h2 => exact .cons q h2
  | _, _ :: _, i + 1, h => by
    cases h with
    | cons h1 h2 => exact .cons h1 (dps_set q i h2)
theorem dps_ints : ∀ {ns : List Int} {vs : List V}, DtAll K H vs (ns.map .int) → vs = ns.map V.int
  | [], _, h => by cases h; rfl
  | _ :: _, _, h => by
    cases h with
    | cons h1 h2 => cases h1; simp [dps_ints h2]
theorem dps_of_ints : ∀ (ns : List Int), DtAll K H (ns.map V.int) (ns.map .int)
  | [] => .nil
  | n :: ns => .cons (.int n) (dps_of_ints ns)
theorem dps_bools : ∀ {ns : List Bool} {vs : List V}, DtAll K H vs (ns.map .bool) → vs = ns.map V.bl
  | [], _, h => by cases h; rfl
  | _ :: _, _, h => by
    cases h with
    | cons h1 h2 => cases h1; simp [dps_bools h2]
end

/-- what of a heap an expression keeps -/
def Kp (b : Beg) (H H' : Hp) : Prop := ∀ a o, H a = some o → b.dr ≠ some a → (∀ ps, o ≠ .tbl ps) → H' a = some o
theorem Kp.refl {b : Beg} {H : Hp} : Kp b H H := fun _ _ h _ _ => h
theorem Kp.trans {b : Beg} {H H1 H2 : Hp} (x : Kp b H H1) (y : Kp b H1 H2) : Kp b H H2 := fun a o h n t => y a o (x a o h n t) n t
theorem Kp.of {b : Beg} {H H' : Hp} (x : Same H H') : Kp b H H' := fun a o h _ _ => x a o h

/-- a table of code objects that may grow -/
def TabG (H : Hp) (P : Addr) : Prop := ∃ ps : Array Value, H P = some (.tbl ps) ∧ TriplesOk ps.toList

structure Grd (K : PySem.W.Frag) (L : Lw) (b : Beg) (F H : Hp) : Prop where
  sub : Same F H
  old : Same b.F0 F
  new : ∀ a o, F a = some o → b.F0 a = some o ∨ b.H0 a = none
  keep : Kp b b.H0 H
  live : ∀ a, H a = none → b.H0 a = none
  drw : ∀ a, b.dr = some a → F a = none ∧ ∃ vs ds, H a = some (.lst vs) ∧ DtAll K F vs ds ∧ L.good ds
  tab : ∀ P ∈ L.tabs, TabG H P
  ntb : ∀ a ps, F a ≠ some (.tbl ps)

def CelOk (K : PySem.W.Frag) (b : Beg) (F H : Hp) (v : Option V) : Cel → Prop
  | .no => True
  | .fz d => ∃ x, v = some x ∧ Dt K F x d
  | .ow ds => ∃ a vs, v = some (.ref a) ∧ b.H0 a = none ∧ b.dr ≠ some a ∧ F a = none ∧ H a = some (.lst vs) ∧ DtAll K F vs ds
  | .dr => ∃ a, v = some (.ref a) ∧ b.dr = some a
  | .lk ds => ∃ a vs, v = some (.ref a) ∧ b.H0 a ≠ none ∧ b.dr ≠ some a ∧ H a = some (.lst vs) ∧ DtAll K F vs ds
def isOw : Option Cel → Prop
  | some (.ow _) => True
  | _ => False
structure Rel (K : PySem.W.Frag) (L : Lw) (b : Beg) (F : Hp) (s : Sl) (σ : L2.St) (H : Hp) : Prop extends Grd K L b F H where
  len : σ.length = s.length
  slot : ∀ (i : Nat) c, s[i]? = some c → CelOk K b F H (σ.getD i none) c
  apart : ∀ (i j : Nat) a, i ≠ j → isOw s[i]? → isOw s[j]? → σ[i]? = some (some (.ref a)) → σ[j]? ≠ some (some (.ref a))

section
variable {K : PySem.W.Frag} {L : Lw} {b : Beg} {F F' : Hp} {s : Sl} {σ : L2.St} {H H' : Hp}
theorem CelOk.mono {v : Option V} {c : Cel} (x : CelOk K b F H v c) (hF : Same F F') (hn : ∀ a, F a = none → H a ≠ none → F' a = none) (hH : Kp b H H') : CelOk K b F' H' v c := by
  cases c with
  | no => trivial
  | fz d => obtain ⟨x, e, h⟩ := x; exact ⟨x, e, dp_mono hF h⟩
  | ow ds =>
    obtain ⟨a, vs, e, h0, hd, hf, hh, hs⟩ := x
    exact ⟨a, vs, e, h0, hd, hn a hf (by rw [hh]; simp), hH a _ hh hd (fun ps z => by cases z), dps_mono hF hs⟩
  | lk ds =>
    obtain ⟨a, vs, e, h0, hd, hh, hs⟩ := x
    exact ⟨a, vs, e, h0, hd, hH a _ hh hd (fun ps z => by cases z), dps_mono hF hs⟩
  | dr => exact x
/-- a new object, not told -/
theorem Grd.lay {p : Addr} {o : HO} (R : Grd K L b F H) (hp : H p = none) : Grd K L b F (upd H p o) where
  sub := fun a x h => same_upd hp a x (R.sub a x h)
  old := R.old
  new := R.new
  keep := R.keep.trans (Kp.of (same_upd hp))
  live := fun a h => R.live a (by
    cases q : H a with
    | none => rfl
    | some u => rw [same_upd hp a u q] at h; cases h)
  drw := fun a h => by
    obtain ⟨h1, vs, ds, h2, h3⟩ := R.drw a h
    exact ⟨h1, vs, ds, same_upd hp a _ h2, h3⟩
  tab := fun P h => by
    obtain ⟨ps, e, t⟩ := R.tab P h
    exact ⟨ps, same_upd hp P _ e, t⟩
  ntb := R.ntb
/-- a laid object is told from now on -/
theorem Grd.tell {p : Addr} {o : HO} (R : Grd K L b F H) (h0 : b.H0 p = none) (hd : b.dr ≠ some p) (e : H p = some o) (hf : F p = none) (ht : ∀ ps, o ≠ .tbl ps) : Grd K L b (upd F p o) H where
  sub := fun a x h => by
    by_cases q : a = p
    · subst q; rw [upd_same] at h; cases h; exact e
    · rw [upd_ne q] at h; exact R.sub a x h
  old := fun a x h => by
    by_cases q : a = p
    · subst q; rw [R.old a x h] at hf; cases hf
    · rw [upd_ne q]; exact R.old a x h
  new := fun a x h => by
    by_cases q : a = p
    · subst q; exact .inr h0
    · rw [upd_ne q] at h; exact R.new a x h
  keep := R.keep
  live := R.live
  drw := fun a h => by
    obtain ⟨h1, vs, ds, h2, h3, h4⟩ := R.drw a h
    have q : a ≠ p := fun z => hd (by rw [← z]; exact h)
    exact ⟨by rw [upd_ne q]; exact h1, vs, ds, h2, dps_mono (same_upd hf) h3, h4⟩
  tab := R.tab
  ntb := fun a ps h => by
    by_cases q : a = p
    · subst q; rw [upd_same] at h; cases h; exact ht ps rfl
    · rw [upd_ne q] at h; exact R.ntb a ps h
theorem Grd.dr_some (R : Grd K L b F H) {p : Addr} (hp : H p = none) : b.dr ≠ some p := fun z => by
  obtain ⟨_, vs, ds, e, _⟩ := R.drw p z
  rw [hp] at e; cases e
theorem Grd.f_none (R : Grd K L b F H) {p : Addr} (hp : H p = none) : F p = none := by
  cases q : F p with
  | none => rfl
  | some u => rw [R.sub p u q] at hp; cases hp
theorem Rel.lay {p : Addr} {o : HO} (R : Rel K L b F s σ H) (hp : H p = none) : Rel K L b F s σ (upd H p o) :=
  { R.toGrd.lay hp with len := R.len, slot := fun i c e => (R.slot i c e).mono (fun _ _ h => h) (fun _ h _ => h) (Kp.of (same_upd hp)), apart := R.apart }
theorem Rel.tell {p : Addr} {o : HO} (R : Rel K L b F s σ H) (h0 : b.H0 p = none) (hd : b.dr ≠ some p) (e : H p = some o) (hf : F p = none) (ht : ∀ ps, o ≠ .tbl ps)
    (hn : ∀ (i : Nat), isOw s[i]? → σ[i]? ≠ some (some (.ref p))) : Rel K L b (upd F p o) s σ H :=
  { R.toGrd.tell h0 hd e hf ht with
    len := R.len
    slot := fun i c q => by
      have x := R.slot i c q
      cases c with
      | no => trivial
      | fz d => obtain ⟨y, e1, h⟩ := x; exact ⟨y, e1, dp_mono (same_upd hf) h⟩
      | dr => exact x
      | lk ds =>
        obtain ⟨a, vs, e1, h1, h2, h3, h4⟩ := x
        exact ⟨a, vs, e1, h1, h2, h3, dps_mono (same_upd hf) h4⟩
      | ow ds =>
        obtain ⟨a, vs, e1, h1, h2, h3, h4, h5⟩ := x
        have ne : a ≠ p := fun z => hn i (by rw [q]; trivial) (by
          rw [← z]
          have hi : i < σ.length := by rw [R.len]; exact (List.getElem?_eq_some_iff.mp q).1
          rw [List.getD_eq_getElem?_getD, List.getElem?_eq_getElem hi] at e1
          rw [List.getElem?_eq_getElem hi]
          exact congrArg some e1)
        exact ⟨a, vs, e1, h1, h2, by rw [upd_ne ne]; exact h3, h4, dps_mono (same_upd hf) h5⟩
    apart := R.apart }
theorem Rel.ow_some (R : Rel K L b F s σ H) {p : Addr} (hp : H p = none) (i : Nat) (q : isOw s[i]?) : σ[i]? ≠ some (some (.ref p)) := fun z => by
  cases e : s[i]? with
  | none => rw [e] at q; exact q
  | some c =>
    rw [e] at q
    cases c with
    | ow ds =>
      obtain ⟨a, vs, e1, h1, h2, h3, h4, h5⟩ := R.slot i _ e
      rw [List.getD_eq_getElem?_getD, z] at e1
      cases e1
      rw [hp] at h4; cases h4
    | _ => exact q
/-- a new object, told -/
theorem Rel.new1 {p : Addr} {o : HO} (R : Rel K L b F s σ H) (hp : H p = none) (ht : ∀ ps, o ≠ .tbl ps) : Rel K L b (upd F p o) s σ (upd H p o) :=
  (R.lay hp).tell (R.live p hp) (R.dr_some hp) upd_same (R.f_none hp) ht (fun i q => R.ow_some hp i q)
/-- slot i holds a datum from now on -/
theorem Rel.put {i : Nat} {v : V} {d : D} (R : Rel K L b F s σ H) (h : Dt K F v d) : Rel K L b F (s.set i (.fz d)) (σ.set i (some v)) H :=
  { R.toGrd with
    len := by rw [List.length_set, List.length_set, R.len]
    slot := fun j c e => by
      by_cases q : j = i
      · subst q
        rw [List.getElem?_set] at e
        split at e
        · split at e
          · cases e
            rename_i hj
            refine ⟨v, ?_, h⟩
            rw [List.getD_eq_getElem?_getD, List.getElem?_set, if_pos rfl, if_pos (by rw [R.len]; exact hj)]
            rfl
          · cases e
        · rename_i z; exact absurd rfl z
      · rw [List.getElem?_set_ne (Ne.symm q)] at e
        have x := R.slot j c e
        rw [List.getD_eq_getElem?_getD] at x ⊢
        rw [List.getElem?_set_ne (Ne.symm q)]
        exact x
    apart := fun j k a n h1 h2 h3 h4 => by
      have nj : j ≠ i := fun z => by
        subst z; rw [List.getElem?_set] at h1
        split at h1
        · split at h1 <;> exact h1
        · rename_i z; exact absurd rfl z
      have nk : k ≠ i := fun z => by
        subst z; rw [List.getElem?_set] at h2
        split at h2
        · split at h2 <;> exact h2
        · rename_i z; exact absurd rfl z
      rw [List.getElem?_set_ne (Ne.symm nj)] at h1 h3
      rw [List.getElem?_set_ne (Ne.symm nk)] at h2 h4
      exact R.apart j k a n h1 h2 h3 h4 }
/-- slot i is forgotten -/
theorem Rel.drop1 {i : Nat} {v : Option V} (R : Rel K L b F s σ H) : Rel K L b F (s.set i .no) (σ.set i v) H :=
  { R.toGrd with
    len := by rw [List.length_set, List.length_set, R.len]
    slot := fun j c e => by
      by_cases q : j = i
      · subst q
        rw [List.getElem?_set] at e
        split at e
        · split at e
          · cases e; trivial
          · cases e
        · rename_i z; exact absurd rfl z
      · rw [List.getElem?_set_ne (Ne.symm q)] at e
        have x := R.slot j c e
        rw [List.getD_eq_getElem?_getD] at x ⊢
        rw [List.getElem?_set_ne (Ne.symm q)]
        exact x
    apart := fun j k a n h1 h2 h3 h4 => by
      have nj : j ≠ i := fun z => by
        subst z; rw [List.getElem?_set] at h1
        split at h1
        · split at h1 <;> exact h1
        · rename_i z; exact absurd rfl z
      have nk : k ≠ i := fun z => by
        subst z; rw [List.getElem?_set] at h2
        split at h2
        · split at h2 <;> exact h2
        · rename_i z; exact absurd rfl z
      rw [List.getElem?_set_ne (Ne.symm nj)] at h1 h3
      rw [List.getElem?_set_ne (Ne.symm nk)] at h2 h4
      exact R.apart j k a n h1 h2 h3 h4 }
/-- slot i owns the new list at p -/
theorem Rel.putO {i : Nat} {p : Addr} {vs : List V} {ds : List D} (R : Rel K L b F s σ H) (h0 : b.H0 p = none) (hd : b.dr ≠ some p) (hf : F p = none) (hn : ∀ (j : Nat), isOw s[j]? → σ[j]? ≠ some (some (.ref p)))
    (e : H p = some (.lst vs)) (h : DtAll K F vs ds) : Rel K L b F (s.set i (.ow ds)) (σ.set i (some (.ref p))) H :=
  { R.toGrd with
    len := by rw [List.length_set, List.length_set, R.len]
    slot := fun j c e' => by
      by_cases q : j = i
      · subst q
        rw [List.getElem?_set] at e'
        split at e'
        · split at e'
          · cases e'
            rename_i hj
            refine ⟨p, vs, ?_, h0, hd, hf, e, h⟩
            rw [List.getD_eq_getElem?_getD, List.getElem?_set, if_pos rfl, if_pos (by rw [R.len]; exact hj)]
            rfl
          · cases e'
        · rename_i z; exact absurd rfl z
      · rw [List.getElem?_set_ne (Ne.symm q)] at e'
        have x := R.slot j c e'
        rw [List.getD_eq_getElem?_getD] at x ⊢
        rw [List.getElem?_set_ne (Ne.symm q)]
        exact x
    apart := fun j k a n h1 h2 h3 h4 => by
      by_cases nj : j = i
      · subst nj
        rw [List.getElem?_set_ne n] at h2 h4
        have hj : j < σ.length := by
          rw [List.getElem?_set] at h3
          split at h3
          · split at h3
            · assumption
            · cases h3
          · rename_i z; exact absurd rfl z
        rw [List.getElem?_set, if_pos rfl, if_pos hj] at h3
        cases h3
        exact hn k h2 h4
      · rw [List.getElem?_set_ne (Ne.symm nj)] at h1 h3
        by_cases nk : k = i
        · subst nk
          have hk : k < σ.length := by
            rw [List.getElem?_set] at h4
            split at h4
            · split at h4
              · assumption
              · cases h4
            · rename_i z; exact absurd rfl z
          rw [List.getElem?_set, if_pos rfl, if_pos hk] at h4
          cases h4
          exact hn j h1 h3
        · rw [List.getElem?_set_ne (Ne.symm nk)] at h2 h4
          exact R.apart j k a n h1 h2 h3 h4 }
end
end FL

/-! FL2: judgements by data: expressions, tests, arguments, statements; the rules of plain code. -/
namespace FL
open PySem PySem.Spec PyProof.Rows L2

abbrev We := Sl → (D → Prop) → (Value → Prop) → Prop
abbrev Wt := Sl → (Bool → Prop) → (Value → Prop) → Prop
abbrev Wa := Sl → (List Cel → Prop) → (Value → Prop) → Prop
abbrev Wl := Sl → (List D → Prop) → (Value → Prop) → Prop

section
variable (K : PySem.W.Frag) (L : Lw) (W : WX)
/-- what a raise within an expression is wished to reach -/
def Exw (b : Beg) (F : Hp) (s : Sl) (σ : L2.St) (R : Value → Prop) : Prop := ∀ cls F' H', Rel K L b F' s σ H' → Same F F' → R cls → W cls none σ H'
def Snd (t : TE) (w : We) : Prop := ∀ (b : Beg) (F : Hp) (s : Sl) (σ : L2.St) (H : Hp) (Q : D → Prop) (R : Value → Prop) (k : VK), Rel K L b F s σ H → w s Q R → Exw K L W b F s σ R →
  (∀ F' d v H', Rel K L b F' s σ H' → Same F F' → Kp b H H' → Dt K F' v d → Q d → k v H') → t σ H k
def SndT (t : TT) (w : Wt) : Prop := ∀ (b : Beg) (F : Hp) (s : Sl) (σ : L2.St) (H : Hp) (Q : Bool → Prop) (R : Value → Prop) (k : Bool → Hp → Prop), Rel K L b F s σ H → w s Q R → Exw K L W b F s σ R →
  (∀ F' c H', Rel K L b F' s σ H' → Same F F' → Kp b H H' → Q c → k c H') → t σ H k
/-- an argument: a datum, or the draws -/
def ArgOk (b : Beg) (F : Hp) (v : V) : Cel → Prop
  | .fz d => Dt K F v d
  | .dr => ∃ a, v = .ref a ∧ b.dr = some a
  | _ => False
def ArgsOk (b : Beg) (F : Hp) : List V → List Cel → Prop
  | [], [] => True
  | v :: vs, c :: cs => ArgOk K b F v c ∧ ArgsOk b F vs cs
  | [], _ :: _ => False
  | _ :: _, [] => False
def SndA (t : TA) (w : Wa) : Prop := ∀ (b : Beg) (F : Hp) (s : Sl) (σ : L2.St) (H : Hp) (Q : List Cel → Prop) (R : Value → Prop) (k : List V → Hp → Prop), Rel K L b F s σ H → w s Q R → Exw K L W b F s σ R →
  (∀ F' cs vs H', Rel K L b F' s σ H' → Same F F' → Kp b H H' → ArgsOk K b F' vs cs → Q cs → k vs H') → t σ H k
/-- told whole, or a list of the def's own whose items are told -/
def DpB (b : Beg) (F H : Hp) (v : V) (d : D) : Prop := Dt K F v d ∨ ∃ a vs ds, v = .ref a ∧ d = .list ds ∧ b.dr ≠ some a ∧ H a = some (.lst vs) ∧ DtAll K F vs ds
def SndB (t : TE) (w : We) : Prop := ∀ (b : Beg) (F : Hp) (s : Sl) (σ : L2.St) (H : Hp) (Q : D → Prop) (R : Value → Prop) (k : VK), Rel K L b F s σ H → w s Q R → Exw K L W b F s σ R →
  (∀ F' d v H', Rel K L b F' s σ H' → Same F F' → Kp b H H' → DpB K b F' H' v d → Q d → k v H') → t σ H k
/-- a new list, nobody's so far -/
structure Fresh (b : Beg) (F : Hp) (s : Sl) (σ : L2.St) (p : Addr) : Prop where
  h0 : b.H0 p = none
  hd : b.dr ≠ some p
  hf : F p = none
  hn : ∀ (i : Nat), isOw s[i]? → σ[i]? ≠ some (some (.ref p))
def SndN (t : TE) (w : Wl) : Prop := ∀ (b : Beg) (F : Hp) (s : Sl) (σ : L2.St) (H : Hp) (Q : List D → Prop) (R : Value → Prop) (k : VK), Rel K L b F s σ H → w s Q R → Exw K L W b F s σ R →
  (∀ F' ds p vs H', Rel K L b F' s σ H' → Same F F' → Kp b H H' → Fresh b F' s σ p → H' p = some (.lst vs) → DtAll K F' vs ds → Q ds → k (.ref p) H') → t σ H k
/-- what is walked, turn by turn, while it is told in F; P: what must hold of the slots -/
def WalkD (b : Beg) (F : Hp) (P : Sl → L2.St → Prop) (J : It) (ds : List D) : Prop := ∀ (b1 : Beg) F1 s1 σ1 H1, Rel K L b1 F1 s1 σ1 H1 → Same F F1 → P s1 σ1 →
  (∀ i, i < ds.length → J.go i H1) ∧ J.stop ds.length H1 ∧ ∀ i x H', i < ds.length → J.yld i H1 x H' → ∃ F2 d, ds[i]? = some d ∧ Rel K L b1 F2 s1 σ1 H' ∧ Same F1 F2 ∧ Kp b1 H1 H' ∧ Dt K F2 x d
def SndI (wi : TI) (w : Wl) : Prop := ∀ (b : Beg) (F : Hp) (s : Sl) (σ : L2.St) (H : Hp) (Q : List D → Prop) (R : Value → Prop) (k : It → Hp → Prop), Rel K L b F s σ H → w s Q R → Exw K L W b F s σ R →
  (∀ F' ds J H', Rel K L b F' s σ H' → Same F F' → Kp b H H' → WalkD K L b F' (fun _ _ => True) J ds → Q ds → k J H') → wi σ H k
abbrev Wg := D → Sl → (Sl → Prop) → Prop
def SndG (g : TG) (w : Wg) : Prop := ∀ (b : Beg) (F : Hp) (s : Sl) (σ : L2.St) (H : Hp) (v : V) (d : D) (Q : Sl → Prop) (k : L2.St → Hp → Prop), Rel K L b F s σ H → Dt K F v d → w d s Q →
  (∀ F' s' σ' H', Rel K L b F' s' σ' H' → Same F F' → Q s' → k σ' H') → g v σ H k
def SndGs (g : TGs) (w : List D → Sl → (Sl → Prop) → Prop) : Prop := ∀ (b : Beg) (F : Hp) (s : Sl) (σ : L2.St) (H : Hp) (vs : List V) (ds : List D) (Q : Sl → Prop) (k : L2.St → Hp → Prop), Rel K L b F s σ H → DtAll K F vs ds → w ds s Q →
  (∀ F' s' σ' H', Rel K L b F' s' σ' H' → Same F F' → Q s' → k σ' H') → g vs σ H k
structure En where
  nx : Sl → Prop
  rt : D → Prop
  ex : Value → Prop
  bk : Sl → Prop := fun _ => False
  ct : Sl → Prop := fun _ => False
  rn : List D → Prop := fun _ => False
abbrev Ws := Sl → En → Prop
structure EnOk (b : Beg) (F : Hp) (E : En) (D' : Ends) : Prop where
  nx : ∀ F' s' σ' H', Rel K L b F' s' σ' H' → Same F F' → E.nx s' → D'.nx σ' H'
  rt : ∀ F' s' σ' H' v d, Rel K L b F' s' σ' H' → Same F F' → Dt K F' v d → E.rt d → D'.rt v H'
  bk : ∀ F' s' σ' H', Rel K L b F' s' σ' H' → Same F F' → E.bk s' → D'.bk σ' H'
  ct : ∀ F' s' σ' H', Rel K L b F' s' σ' H' → Same F F' → E.ct s' → D'.ct σ' H'
  ex : ∀ cls F' s' σ' H', Rel K L b F' s' σ' H' → Same F F' → E.ex cls → W cls none σ' H'
  rn : ∀ F' s' σ' H' p vs ds, Rel K L b F' s' σ' H' → Same F F' → Fresh b F' s' σ' p → H' p = some (.lst vs) → DtAll K F' vs ds → E.rn ds → D'.rt (.ref p) H'
def SndS (t : TS) (w : Ws) : Prop := ∀ (b : Beg) (F : Hp) (s : Sl) (σ : L2.St) (H : Hp) (E : En) (D' : Ends), Rel K L b F s σ H → w s E → EnOk K L W b F E D' → t D' σ H
end

section
variable (X : Cx) (L : Lw) (W : WX)
structure FE (e : Expr) (t : TE) (w : We) : Prop where
  pe : PE X e t
  snd : Snd X.K L W t w
structure FT (e : Expr) (t : TT) (w : Wt) : Prop where
  pe : PT X e t
  snd : SndT X.K L W t w
structure FW (e : Expr) (t : TT) (w : Wt) : Prop where
  pe : PW X e t
  snd : SndT X.K L W t w
structure FA (es : List Expr) (t : TA) (w : Wa) : Prop where
  pe : PA X es t
  snd : SndA X.K L W t w
structure FB (e : Expr) (t : TE) (w : We) : Prop where
  pe : PE X e t
  snd : SndB X.K L W t w
structure FN (e : Expr) (t : TE) (w : Wl) : Prop where
  pe : PE X e t
  snd : SndN X.K L W t w
structure FI (tg iter : Expr) (t : TI) (w : Wl) : Prop where
  pe : PI X tg iter t
  snd : SndI X.K L W t w
structure FG (tg : Expr) (g : TG) (w : Wg) : Prop where
  pe : PG X tg g
  snd : SndG X.K L g w
structure FGs (tgs : List Expr) (g : TGs) (w : List D → Sl → (Sl → Prop) → Prop) : Prop where
  pe : PGs X tgs g
  snd : SndGs X.K L g w
structure FS (st : Stmt) (t : TS) (w : Ws) : Prop where
  pe : PS X st t
  snd : SndS X.K L W t w
structure FSs (sts : List Stmt) (t : TS) (w : Ws) : Prop where
  pe : PSs X sts t
  snd : SndS X.K L W t w
end

section
variable {X : Cx} {L : Lw} {W : WX} {pos : Pos}
theorem same_trans {F F1 F2 : Hp} (a : Same F F1) (b : Same F1 F2) : Same F F2 := a.trans b
theorem Exw.mono {K : PySem.W.Frag} {b : Beg} {F F' : Hp} {s : Sl} {σ : L2.St} {R : Value → Prop} (x : Exw K L W b F s σ R) (m : Same F F') : Exw K L W b F' s σ R := fun cls F1 H1 I m1 q => x cls F1 H1 I (m.trans m1) q

/-! ### names, constants -/
def wVar (i : Nat) : We := fun s Q _ => match s[i]? with
  | some (.fz d) => Q d
  | _ => False
theorem fe_var (i : Nat) {x : Str} (hN : X.N[i]? = some x := by rfl) (hv : Vis X.env.scope x := by first | exact Or.inl rfl | exact Or.inr (Or.inl rfl) | exact Or.inr (Or.inr rfl)) (hd : (x == ("__debug__" : Str)) = false := by decide)
    (hcd : (x == ("__classdict__" : Str)) = false := by decide) : FE X L W (.Name x pos) (tVar i) (wVar i) := by
  refine ⟨pv i hN hv hd hcd, fun b F s σ H Q R k I h hx kk => ?_⟩
  unfold wVar at h
  split at h
  · rename_i d e
    obtain ⟨v, e1, h1⟩ := I.slot i _ e
    refine ⟨v, ?_, kk F d v H I (Same.refl F) Kp.refl h1 h⟩
    rw [List.getD_eq_getElem?_getD] at e1
    cases q : σ[i]? with
    | none => rw [q] at e1; cases e1
    | some u => rw [q] at e1; exact congrArg some e1
  · exact h.elim
/-- a slot whose list may still grow, only looked at -/
def wVarB (i : Nat) : We := fun s Q _ => match s[i]? with
  | some (.fz d) => Q d
  | some (.ow ds) => Q (.list ds)
  | some (.lk ds) => Q (.list ds)
  | _ => False
theorem fb_var (i : Nat) {x : Str} (hN : X.N[i]? = some x := by rfl) (hv : Vis X.env.scope x := by first | exact Or.inl rfl | exact Or.inr (Or.inl rfl) | exact Or.inr (Or.inr rfl)) (hd : (x == ("__debug__" : Str)) = false := by decide)
    (hcd : (x == ("__classdict__" : Str)) = false := by decide) : FB X L W (.Name x pos) (tVar i) (wVarB i) := by
  refine ⟨pv i hN hv hd hcd, fun b F s σ H Q R k I h hx kk => ?_⟩
  have out : ∀ {v : V}, σ.getD i none = some v → σ[i]? = some (some v) := fun {v} e1 => by
    rw [List.getD_eq_getElem?_getD] at e1
    cases q : σ[i]? with
    | none => rw [q] at e1; cases e1
    | some u => rw [q] at e1; exact congrArg some e1
  unfold wVarB at h
  split at h
  · rename_i d e
    obtain ⟨v, e1, h1⟩ := I.slot i _ e
    exact ⟨v, out e1, kk F d v H I (Same.refl F) Kp.refl (.inl h1) h⟩
  · rename_i ds e
    obtain ⟨a, vs, e1, h1, h2, h3, h4, h5⟩ := I.slot i _ e
    exact ⟨_, out e1, kk F _ _ H I (Same.refl F) Kp.refl (.inr ⟨a, vs, ds, rfl, rfl, h2, h4, h5⟩) h⟩
  · rename_i ds e
    obtain ⟨a, vs, e1, h1, h2, h4, h5⟩ := I.slot i _ e
    exact ⟨_, out e1, kk F _ _ H I (Same.refl F) Kp.refl (.inr ⟨a, vs, ds, rfl, rfl, h2, h4, h5⟩) h⟩
  · exact h.elim
theorem fb_fe {e : Expr} {t : TE} {w : We} (h : FE X L W e t w) : FB X L W e t w :=
  ⟨h.pe, fun b F s σ H Q R k I q hx kk => h.snd b F s σ H Q R k I q hx fun F' d v H' I' sm kp r => kk F' d v H' I' sm kp (.inl r)⟩
def wC (d : D) : We := fun _ Q _ => Q d
theorem snd_c {v : V} {d : D} (h : ∀ F, Dt X.K F v d) : Snd X.K L W (tC v) (wC d) := fun b F s σ H Q R k I q hx kk => kk F d v H I (Same.refl F) Kp.refl (h F) q
theorem fe_int {i : Int} {j : Nat} : FE X L W (.Constant (.int i) j pos) (tC (.int i)) (wC (.int i)) := ⟨pe_int, snd_c fun _ => .int i⟩
theorem fe_bl {i : Bool} {j : Nat} : FE X L W (.Constant (.bool i) j pos) (tC (.bl i)) (wC (.bool i)) := ⟨pe_bl, snd_c fun _ => .bl i⟩
theorem fe_non {j : Nat} : FE X L W (.Constant .none j pos) (tC .non) (wC .none) := ⟨pe_non, snd_c fun _ => .non⟩
theorem fe_str {x : Str} {j : Nat} : FE X L W (.Constant (.str x) j pos) (tC (.str x)) (wC (.str x)) := ⟨pe_str, snd_c fun _ => .str x⟩
/-- a constant of the module's top -/
theorem fe_glob {x : Str} {v : V} {u : Value} {d : D} (hg : Gl X x) (hm : X.mg x = some u) (r : RelV v u) (hp : Dt X.K (fun _ => none) v d) (hd : (x == ("__debug__" : Str)) = false := by decide) : FE X L W (.Name x pos) (tC v) (wC d) :=
  ⟨pe_glob hg hm r hd, snd_c fun F => dp_mono (fun _ _ z => by cases z) hp⟩

/-! ### operators by data -/
structure OpD (X : Cx) (L : Lw) (f : Value → Value → Sem Value) (r : R2) (w : D → D → (D → Prop) → Prop) : Prop where
  op : OpR X f r
  snd : ∀ (b : Beg) (F : Hp) (s : Sl) (σ : L2.St) (H : Hp) (x y : V) (d e : D) (Q : D → Prop) (k : VK), Rel X.K L b F s σ H → Dt X.K F x d → Dt X.K F y e → w d e Q →
    (∀ F' c v H', Rel X.K L b F' s σ H' → Same F F' → Kp b H H' → Dt X.K F' v c → Q c → k v H') → r x y H k
def wOp (w : D → D → (D → Prop) → Prop) (wa wb : We) : We := fun s Q R => wa s (fun x => wb s (fun y => w x y Q) R) R
theorem fe_op {op : Operator} {r : R2} {w : D → D → (D → Prop) → Prop} {a c : Expr} {ta tb : TE} {wa wb : We} (o : OpD X L (binaryOp op) r w) (ha : FE X L W a ta wa) (hb : FE X L W c tb wb) : FE X L W (.BinOp a op c pos) (tOp r ta tb) (wOp w wa wb) := by
  refine ⟨pe_op o.op ha.pe hb.pe, fun b F s σ H Q R k I h hx kk => ?_⟩
  refine ha.snd b F s σ H _ R _ I h hx fun F1 d1 v1 H1 I1 m1 k1 r1 h1 => ?_
  refine hb.snd b F1 s σ H1 _ R _ I1 h1 (hx.mono m1) fun F2 d2 v2 H2 I2 m2 k2 r2 h2 => ?_
  exact o.snd b F2 s σ H2 v1 v2 d1 d2 Q k I2 (dp_mono m2 r1) r2 h2 fun F3 c v H3 I3 m3 k3 r3 q => kk F3 c v H3 I3 (m1.trans (m2.trans m3)) (k1.trans (k2.trans k3)) r3 q
def dI (C : Int → Int → Prop) (g : Int → Int → Int) : D → D → (D → Prop) → Prop := fun d e Q => match d, e with
  | .int i, .int j => C i j ∧ Q (.int (g i j))
  | _, _ => False
def dI0 (g : Int → Int → Int) : D → D → (D → Prop) → Prop := fun d e Q => match d, e with
  | .int i, .int j => Q (.int (g i j))
  | _, _ => False
theorem opd_I {f : Value → Value → Sem Value} {C : Int → Int → Prop} {g : Int → Int → Int} (h : OpR X f (rI C fun i j => .int (g i j))) : OpD X L f (rI C fun i j => .int (g i j)) (dI C g) := by
  refine ⟨h, fun b F s σ H x y d e Q k I hx hy q kk => ?_⟩
  unfold dI at q
  split at q
  · cases hx; cases hy
    exact ⟨_, _, rfl, rfl, q.1, kk F _ _ H I (Same.refl F) Kp.refl (.int _) q.2⟩
  · exact q.elim
theorem opd_I0 {f : Value → Value → Sem Value} {g : Int → Int → Int} (h : OpR X f (rI0 fun i j => .int (g i j))) : OpD X L f (rI0 fun i j => .int (g i j)) (dI0 g) := by
  refine ⟨h, fun b F s σ H x y d e Q k I hx hy q kk => ?_⟩
  unfold dI0 at q
  split at q
  · cases hx; cases hy
    exact ⟨_, _, rfl, rfl, kk F _ _ H I (Same.refl F) Kp.refl (.int _) q⟩
  · exact q.elim
/-- + -/
def rCatL (K : PySem.W.Frag) : R2 := fun x y H Q => ∃ l b xs zs, x = .ref l ∧ y = .ref b ∧ SqL K H l xs ∧ SqL K H b zs ∧ xs.length + zs.length ≤ sizeLine ∧ ∀ p, H p = none → Q (.ref p) (upd H p (.lst (xs ++ zs)))
theorem op_catL : OpR X (binaryOp .Add) (rCatL X.K) := by
  intro pins s σ H x y v u Q I rx ry h
  obtain ⟨l, b, xs, zs, rfl, rfl, hH, hB, hz, q⟩ := h
  cases rx
  cases ry
  obtain ⟨its, r, ⟨⟨c1, d1, t1, s1⟩, n, ho, hc, hdn, hd⟩, z⟩ := I.list hH
  obtain ⟨its2, r2, ⟨⟨c2, d2, t2, s2⟩, n2, ho2, hc2, hdn2, hd2⟩, z2⟩ := I.list hB
  have l1 := r.length
  have l2 := r2.length
  simp only at hc hd hdn hc2 hd2 hdn2
  subst hc hd hdn hc2 hd2 hdn2
  refine concat_meets ⟨_, ho, rfl⟩ ⟨_, ho2, rfl⟩ noFill_list_add seq_list_add PySem.F.slot_list_add PySem.F.entry_list_add (PySem.F.args_list_add_2 _ _) (list_addW l b its.toArray its2.toArray n n2 _ _ s1 s2 (by rw [List.size_toArray, List.size_toArray]; omega)) ⟨ho, ho2, ?_⟩
  have ea : its.toArray ++ its2.toArray = (its ++ its2).toArray := by simp
  rw [ea]
  exact ⟨.ref _, _, I.lnew (t' := s.toks) (r.append r2) (by rw [List.length_append]; omega), rfl, q _ I.fresh⟩
end
end FL

/-! FL3: operators, comparisons, tests, subscripts, displays. -/
namespace FL
open PySem PySem.Spec PyProof.Rows L2
section
variable {X : Cx} {L : Lw} {W : WX} {pos : Pos} {a c : Expr} {ta tb : TE} {wa wb : We}

/-! ### + - * // % ** << >> ^ & -/
def dAdd : D → D → (D → Prop) → Prop := fun d e Q => match d, e with
  | .int i, .int j => Q (.int (i + j))
  | .str x, .str y => x.length + y.length ≤ sizeLine ∧ Q (.str (x ++ y))
  | .tuple xs, .tuple ys => xs.length + ys.length ≤ sizeLine ∧ Q (.tuple (xs ++ ys))
  | .list xs, .list ys => xs.length + ys.length ≤ sizeLine ∧ Q (.list (xs ++ ys))
  | _, _ => False
abbrev rStrAdd : R2 := fun x y H Q => ∃ i j, x = .str i ∧ y = .str j ∧ i.length + j.length ≤ sizeLine ∧ Q (.str (i ++ j)) H
abbrev rAddA (K : PySem.W.Frag) : R2 := fun x y H Q => rI0 (fun i j => .int (i + j)) x y H Q ∨ (rStrAdd x y H Q ∨ (rCatA K x y H Q ∨ rCatL K x y H Q))
theorem opd_add : OpD X L (binaryOp .Add) (rAddA X.K) dAdd := by
  refine ⟨op_add.or (op_add_str.or (op_catA.or op_catL)), fun b F s σ H x y d e Q k I hx hy q kk => ?_⟩
  unfold dAdd at q
  split at q
  · cases hx; cases hy
    exact .inl ⟨_, _, rfl, rfl, kk F _ _ H I (Same.refl F) Kp.refl (.int _) q⟩
  · cases hx; cases hy
    exact .inr (.inl ⟨_, _, rfl, rfl, q.1, kk F _ _ H I (Same.refl F) Kp.refl (.str _) q.2⟩)
  · rename_i xs ys
    cases hx with
    | tup h1 h2 =>
      cases hy with
      | tup h3 h4 =>
        have l1 := dps_len h2
        have l2 := dps_len h4
        refine .inr (.inr (.inl ⟨_, _, _, _, rfl, rfl, same_sqT I.sub h1, same_sqT I.sub h3, by omega, fun e => ?_, fun e1 e2 => ?_, fun e1 e2 p hp => ?_⟩))
        · subst e
          have z : xs = [] := List.eq_nil_of_length_eq_zero l1.symm
          subst z
          exact kk F _ _ H I (Same.refl F) Kp.refl (.tup h3 h4) q.2
        · subst e2
          have z : ys = [] := List.eq_nil_of_length_eq_zero l2.symm
          subst z
          rw [List.append_nil] at q
          exact kk F _ _ H I (Same.refl F) Kp.refl (.tup h1 h2) q.2
        · have hf := I.f_none hp
          exact kk _ _ _ _ (I.new1 hp (fun ps z => by cases z)) (same_upd hf) (Kp.of (same_upd hp)) (.tup (.inl (.inl upd_same)) (dps_mono (same_upd hf) (dps_app h2 h4))) q.2
  · cases hx with
    | lst h1 h2 =>
      cases hy with
      | lst h3 h4 =>
        have l1 := dps_len h2
        have l2 := dps_len h4
        refine .inr (.inr (.inr ⟨_, _, _, _, rfl, rfl, I.sub.seq h1, I.sub.seq h3, by omega, fun p hp => ?_⟩))
        have hf := I.f_none hp
        exact kk _ _ _ _ (I.new1 hp (fun ps z => by cases z)) (same_upd hf) (Kp.of (same_upd hp)) (.lst (.inl (.inl upd_same)) (dps_mono (same_upd hf) (dps_app h2 h4))) q.2
  · exact q.elim
theorem fe_add (ha : FE X L W a ta wa) (hb : FE X L W c tb wb) : FE X L W (.BinOp a .Add c pos) (tOp (rAddA X.K) ta tb) (wOp dAdd wa wb) := fe_op opd_add ha hb
theorem fe_sub (ha : FE X L W a ta wa) (hb : FE X L W c tb wb) : FE X L W (.BinOp a .Sub c pos) (tOp (rI0 fun i j => .int ((fun i j => i - j) i j)) ta tb) (wOp (dI0 fun i j => i - j) wa wb) := fe_op (opd_I0 op_sub) ha hb
/-- the product is within the machine's bounds -/
def MulOk (i j : Int) : Prop := IntMulOk i j
theorem mul_l {i j : Int} (h1 : -(2 ^ 64) < i) (h2 : i < 2 ^ 64) : MulOk i j := CMul.ok (.inl ⟨h1, h2⟩)
theorem mul_r {i j : Int} (h1 : -(2 ^ 64) < j) (h2 : j < 2 ^ 64) : MulOk i j := CMul.ok (.inr ⟨h1, h2⟩)
theorem mul_w {i j : Int} {m n : Nat} (h1 : i.natAbs < 2 ^ m) (h2 : j.natAbs < 2 ^ n) (h : 0 < m ∧ 0 < n ∧ m + n ≤ 1000000) : MulOk i j := CMulW.ok (wide_mul h1 h2 h.1 h.2.1 h.2.2)
theorem op_mulA : OpR X (binaryOp .Mult) (rI MulOk fun i j => .int (i * j)) := opI fun _ _ _ _ _ _ _ hc q => mul_int q hc
theorem fe_mul (ha : FE X L W a ta wa) (hb : FE X L W c tb wb) : FE X L W (.BinOp a .Mult c pos) (tOp (rI MulOk fun i j => .int ((fun i j => i * j) i j)) ta tb) (wOp (dI MulOk fun i j => i * j) wa wb) := fe_op (opd_I op_mulA) ha hb
/-- a divisor within the machine's bounds -/
def DivOk (j : Int) : Prop := j.natAbs.log2 < 9000
theorem div_s {j : Int} (h1 : -(2 ^ 64) < j) (h2 : j < 2 ^ 64) : DivOk j := by
  unfold DivOk
  have h3 : j.natAbs < 2 ^ 65 := by omega
  exact Nat.lt_trans (PySem.Flt.log2_lt_of (by decide : 0 < 65) h3) (by decide)
theorem div_w {j : Int} {m : Nat} (h : j.natAbs < 2 ^ m) (h2 : 0 < m ∧ m ≤ 9000) : DivOk j := Nat.lt_of_lt_of_le (PySem.Flt.log2_lt_of h2.1 h) h2.2
theorem op_fdivP : OpR X (binaryOp .FloorDiv) (rI (fun _ j => 0 < j ∧ DivOk j) fun i j => .int (i / j)) := opI fun i j _ _ _ _ _ hc q => by
  have h1 : (0 : Int) < j := hc.1
  exact floordiv_int (by omega) (by rw [Int.fdiv_eq_ediv_of_nonneg i (by omega)]; exact q) (.inl (PyProof.noPylong_of_log2 hc.2))
theorem op_fdivA : OpR X (binaryOp .FloorDiv) (rI (fun _ j => j ≠ 0 ∧ DivOk j) fun i j => .int (i.fdiv j)) := opI fun i j _ _ _ _ _ hc q =>
  floordiv_int hc.1 q (.inl (PyProof.noPylong_of_log2 hc.2))
theorem fe_div (ha : FE X L W a ta wa) (hb : FE X L W c tb wb) : FE X L W (.BinOp a .FloorDiv c pos) (tOp (rI (fun _ j => 0 < j ∧ DivOk j) fun i j => .int ((fun i j => i / j) i j)) ta tb) (wOp (dI (fun _ j => 0 < j ∧ DivOk j) fun i j => i / j) wa wb) := fe_op (opd_I op_fdivP) ha hb
theorem fe_divN (ha : FE X L W a ta wa) (hb : FE X L W c tb wb) : FE X L W (.BinOp a .FloorDiv c pos) (tOp (rI (fun _ j => j ≠ 0 ∧ DivOk j) fun i j => .int ((fun i j => i.fdiv j) i j)) ta tb) (wOp (dI (fun _ j => j ≠ 0 ∧ DivOk j) fun i j => i.fdiv j) wa wb) := fe_op (opd_I op_fdivA) ha hb
theorem fe_mod (ha : FE X L W a ta wa) (hb : FE X L W c tb wb) : FE X L W (.BinOp a .Mod c pos) (tOp (rI (fun _ j => 0 < j) fun i j => .int ((fun i j => i % j) i j)) ta tb) (wOp (dI (fun _ j => 0 < j) fun i j => i % j) wa wb) := fe_op (opd_I op_mod) ha hb
theorem fe_modN (ha : FE X L W a ta wa) (hb : FE X L W c tb wb) : FE X L W (.BinOp a .Mod c pos) (tOp (rI (fun _ j => j ≠ 0) fun i j => .int ((fun i j => i.fmod j) i j)) ta tb) (wOp (dI (fun _ j => j ≠ 0) fun i j => i.fmod j) wa wb) := fe_op (opd_I op_modN) ha hb
theorem fe_pow (ha : FE X L W a ta wa) (hb : FE X L W c tb wb) : FE X L W (.BinOp a .Pow c pos) (tOp (rI CPow fun i j => .int ((fun i j => i ^ j.toNat) i j)) ta tb) (wOp (dI CPow fun i j => i ^ j.toNat) wa wb) := fe_op (opd_I op_pow) ha hb
theorem fe_shl (ha : FE X L W a ta wa) (hb : FE X L W c tb wb) : FE X L W (.BinOp a .LShift c pos) (tOp (rI CPow fun i j => .int ((fun i j => i * 2 ^ j.toNat) i j)) ta tb) (wOp (dI CPow fun i j => i * 2 ^ j.toNat) wa wb) := fe_op (opd_I op_shl) ha hb
theorem fe_shr (ha : FE X L W a ta wa) (hb : FE X L W c tb wb) : FE X L W (.BinOp a .RShift c pos) (tOp (rI (fun _ j => 0 ≤ j) fun i j => .int ((fun i j => i / 2 ^ j.toNat) i j)) ta tb) (wOp (dI (fun _ j => 0 ≤ j) fun i j => i / 2 ^ j.toNat) wa wb) := fe_op (opd_I op_shr) ha hb
theorem fe_xor (ha : FE X L W a ta wa) (hb : FE X L W c tb wb) : FE X L W (.BinOp a .BitXor c pos) (tOp (rI0 fun i j => .int ((Builtin.bitXor) i j)) ta tb) (wOp (dI0 Builtin.bitXor) wa wb) := fe_op (opd_I0 op_xor) ha hb
theorem fe_and (ha : FE X L W a ta wa) (hb : FE X L W c tb wb) : FE X L W (.BinOp a .BitAnd c pos) (tOp (rI0 fun i j => .int ((Builtin.bitAnd) i j)) ta tb) (wOp (dI0 Builtin.bitAnd) wa wb) := fe_op (opd_I0 op_and) ha hb
def wNeg (wa : We) : We := fun s Q R => wa s (fun d => match d with | .int i => Q (.int (-i)) | _ => False) R
theorem fe_neg (ha : FE X L W a ta wa) : FE X L W (.UnaryOp .USub a pos) (tUn (rU fun i => .int (-i)) ta) (wNeg wa) := by
  refine ⟨pe_un un_neg ha.pe, fun b F s σ H Q R k I h hx kk => ?_⟩
  refine ha.snd b F s σ H _ R _ I h hx fun F1 d1 v1 H1 I1 m1 k1 r1 h1 => ?_
  split at h1
  · cases r1
    exact ⟨_, rfl, kk F1 _ _ H1 I1 m1 k1 (.int _) h1⟩
  · exact h1.elim

/-! ### comparisons -/
/-- a comparison by data: two operands told or looked at -/
structure CmD (X : Cx) (L : Lw) (op : CmpOp) (r : R2) (w : D → D → (Bool → Prop) → Prop) : Prop where
  opr : OpR X (compareOp op) r
  mrk : op ≠ .In ∧ op ≠ .NotIn
  snd : ∀ (b : Beg) (F : Hp) (s : Sl) (σ : L2.St) (H : Hp) (x y : V) (d e : D) (Q : Bool → Prop) (k : VK), Rel X.K L b F s σ H → DpB X.K b F H x d → DpB X.K b F H y e → w d e Q → (∀ c, Q c → k (.bl c) H) → r x y H k
theorem DpB.keep {K : PySem.W.Frag} {b : Beg} {F F' H H' : Hp} {v : V} {d : D} (h : DpB K b F H v d) (m : Same F F') (kp : Kp b H H') : DpB K b F' H' v d := by
  rcases h with h | ⟨a, vs, ds, e1, e2, e3, e4, e5⟩
  · exact .inl (dp_mono m h)
  · exact .inr ⟨a, vs, ds, e1, e2, e3, kp _ _ e4 e3 (fun ps z => by cases z), dps_mono m e5⟩
/-- what is looked at, over the heap as it is -/
theorem DpB.at {K : PySem.W.Frag} {b : Beg} {F H : Hp} {v : V} {d : D} (h : DpB K b F H v d) (m : Same F H) : Dt K H v d := by
  rcases h with h | ⟨a, vs, ds, rfl, rfl, e3, e4, e5⟩
  · exact dp_mono m h
  · exact .lst (.inl (.inl e4)) (dps_mono m e5)
def wCmpV (w : D → D → (Bool → Prop) → Prop) (wa wb : We) : We := fun s Q R => wa s (fun x => wb s (fun y => w x y fun z => Q (.bool z)) R) R
def wCmpT (w : D → D → (Bool → Prop) → Prop) (wa wb : We) : Wt := fun s Q R => wa s (fun x => wb s (fun y => w x y Q) R) R
theorem fe_cmp {op : CmpOp} {r : R2} {w : D → D → (Bool → Prop) → Prop} (o : CmD X L op r w) (ha : FB X L W a ta wa) (hb : FB X L W c tb wb) : FE X L W (.Compare a [op] [c] pos) (tOp r ta tb) (wCmpV w wa wb) := by
  refine ⟨pe_cmpR o.opr ha.pe hb.pe (nomark _ o.mrk.1 o.mrk.2), fun b F s σ H Q R k I h hx kk => ?_⟩
  refine ha.snd b F s σ H _ R _ I h hx fun F1 d1 v1 H1 I1 m1 k1 r1 h1 => ?_
  refine hb.snd b F1 s σ H1 _ R _ I1 h1 (hx.mono m1) fun F2 d2 v2 H2 I2 m2 k2 r2 h2 => ?_
  exact o.snd b F2 s σ H2 v1 v2 d1 d2 _ k I2 (r1.keep m2 k2) r2 h2 fun z q => kk F2 _ _ H2 I2 (m1.trans m2) (k1.trans k2) (.bl z) q
theorem ft_cmp {op : CmpOp} {r : R2} {w : D → D → (Bool → Prop) → Prop} (o : CmD X L op r w) (ha : FB X L W a ta wa) (hb : FB X L W c tb wb) : FT X L W (.Compare a [op] [c] pos) (tTest (tOp r ta tb)) (wCmpT w wa wb) := by
  refine ⟨pt_cmpR o.opr ha.pe hb.pe (nomark _ o.mrk.1 o.mrk.2), fun b F s σ H Q R k I h hx kk => ?_⟩
  refine ha.snd b F s σ H _ R _ I h hx fun F1 d1 v1 H1 I1 m1 k1 r1 h1 => ?_
  refine hb.snd b F1 s σ H1 _ R _ I1 h1 (hx.mono m1) fun F2 d2 v2 H2 I2 m2 k2 r2 h2 => ?_
  exact o.snd b F2 s σ H2 v1 v2 d1 d2 _ _ I2 (r1.keep m2 k2) r2 h2 fun z q => ⟨z, rfl, kk F2 z H2 I2 (m1.trans m2) (k1.trans k2) q⟩
/-- two scalars whose == is plain, or two that are laid as data -/
def scalD : D → D → Bool
  | .none, .none => true | .none, .int _ => true | .int _, .none => true | .none, .bool _ => true | .bool _, .none => true | .none, .str _ => true | .str _, .none => true
  | .int _, .int _ => true | .bool _, .bool _ => true | .str _, .str _ => true
  | .int _, .str _ => true | .str _, .int _ => true | .bool _, .str _ => true | .str _, .bool _ => true
  | _, _ => false
def EqOk (d e : D) : Prop := scalD d e = true ∨ (SeqAt.shaped d = true ∧ SeqAt.shaped e = true)
def dEq : D → D → (Bool → Prop) → Prop := fun d e Q => EqOk d e ∧ Q (PyData.eqv d e)
def dNe : D → D → (Bool → Prop) → Prop := fun d e Q => EqOk d e ∧ Q (!PyData.eqv d e)
abbrev rEqA (K : PySem.W.Frag) : R2 := fun x y H Q => rEq x y H Q ∨ rEqD K x y H Q
abbrev rNeA (K : PySem.W.Frag) : R2 := fun x y H Q => rNe x y H Q ∨ rNeD K x y H Q
theorem scal_eq {K : PySem.W.Frag} {H : Hp} {x y : V} {d e : D} (hx : Dt K H x d) (hy : Dt K H y e) (h : scalD d e = true) : scal x y = true ∧ decide (x = y) = PyData.eqv d e := by
  have ne : ∀ {b c : Bool}, (b == c) = decide (b = c) := fun {b c} => by cases b <;> cases c <;> rfl
  cases hx <;> cases hy <;> first
    | (refine ⟨rfl, ?_⟩; first | rfl | (rw [PyData.eqv]; first | exact dec_int | exact dec_bl | exact dec_str) | (simp only [PyData.eqv]; rfl) | (simp [PyData.eqv]))
    | (cases h)
theorem cmd_eq {k : Nat} (hr : Room k X.A) : CmD X L .Eq (rEqA X.K) dEq := by
  refine ⟨op_eq.or (op_eqD hr.units), ⟨by decide, by decide⟩, fun b F s σ H x y d e Q k I hx hy q kk => ?_⟩
  have hx' := hx.at I.sub
  have hy' := hy.at I.sub
  rcases q.1 with h | h
  · obtain ⟨h1, h2⟩ := scal_eq hx' hy' h
    exact .inl ⟨h1, by rw [h2]; exact kk _ q.2⟩
  · exact .inr ⟨d, e, dt_dp hx', dt_dp hy', h.1, h.2, kk _ q.2⟩
theorem cmd_ne {k : Nat} (hr : Room k X.A) : CmD X L .NotEq (rNeA X.K) dNe := by
  refine ⟨op_ne.or (op_neD hr.units), ⟨by decide, by decide⟩, fun b F s σ H x y d e Q k I hx hy q kk => ?_⟩
  have hx' := hx.at I.sub
  have hy' := hy.at I.sub
  rcases q.1 with h | h
  · obtain ⟨h1, h2⟩ := scal_eq hx' hy' h
    exact .inl ⟨h1, by rw [h2]; exact kk _ q.2⟩
  · exact .inr ⟨d, e, dt_dp hx', dt_dp hy', h.1, h.2, kk _ q.2⟩
def dO (p : Int → Int → Bool) : D → D → (Bool → Prop) → Prop := fun d e Q => match d, e with
  | .int i, .int j => Q (p i j)
  | _, _ => False
theorem cmd_O {op : CmpOp} {p : Int → Int → Bool} (h : OpR X (compareOp op) (rI0 fun i j => .bl (p i j))) (hm : op ≠ .In ∧ op ≠ .NotIn) : CmD X L op (rI0 fun i j => .bl (p i j)) (dO p) := by
  refine ⟨h, hm, fun b F s σ H x y d e Q k I hx hy q kk => ?_⟩
  unfold dO at q
  split at q
  · have hx' := hx.at I.sub
    have hy' := hy.at I.sub
    cases hx'; cases hy'
    exact ⟨_, _, rfl, rfl, kk _ q⟩
  · exact q.elim
theorem cmd_lt : CmD X L .Lt (rI0 fun i j => .bl (decide (i < j))) (dO fun i j => decide (i < j)) := cmd_O op_lt ⟨by decide, by decide⟩
theorem cmd_le : CmD X L .LtE (rI0 fun i j => .bl (decide (i ≤ j))) (dO fun i j => decide (i ≤ j)) := cmd_O op_le ⟨by decide, by decide⟩
theorem cmd_gt : CmD X L .Gt (rI0 fun i j => .bl (decide (j < i))) (dO fun i j => decide (j < i)) := cmd_O op_gt ⟨by decide, by decide⟩
theorem cmd_ge : CmD X L .GtE (rI0 fun i j => .bl (decide (j ≤ i))) (dO fun i j => decide (j ≤ i)) := cmd_O op_ge ⟨by decide, by decide⟩
def isNoneD : D → Bool
  | .none => true
  | _ => false
def dIsN : D → D → (Bool → Prop) → Prop := fun d e Q => match e with
  | .none => Q (isNoneD d)
  | .bool c => (match d with | .bool b => Q (decide (b = c)) | _ => False)
  | _ => False
def dNotN : D → D → (Bool → Prop) → Prop := fun d e Q => match e with
  | .none => Q (!isNoneD d)
  | .bool c => (match d with | .bool b => Q (!decide (b = c)) | _ => False)
  | _ => False
abbrev rIsA : R2 := fun x y H Q => (y = .non ∧ Q (.bl (decide (x = .non))) H) ∨ rIsB x y H Q
abbrev rNotA : R2 := fun x y H Q => (y = .non ∧ Q (.bl (!decide (x = .non))) H) ∨ rNotB x y H Q
theorem isn_dec {K : PySem.W.Frag} {H : Hp} {x : V} {d : D} (hx : Dt K H x d) : decide (x = .non) = isNoneD d := by
  cases hx <;> first | rfl | (apply decide_eq_false; intro z; cases z)
theorem cmd_is : CmD X L .Is rIsA dIsN := by
  refine ⟨op_isN.or op_isBl, ⟨by decide, by decide⟩, fun b F s σ H x y d e Q k I hx hy q kk => ?_⟩
  have hx' := hx.at I.sub
  have hy' := hy.at I.sub
  unfold dIsN at q
  split at q
  · cases hy'
    exact .inl ⟨rfl, by rw [isn_dec hx']; exact kk _ q⟩
  · split at q
    · cases hx'; cases hy'
      exact .inr ⟨_, _, rfl, rfl, kk _ q⟩
    · exact q.elim
  · exact q.elim
theorem cmd_isnot : CmD X L .IsNot rNotA dNotN := by
  refine ⟨op_notN.or op_notBl, ⟨by decide, by decide⟩, fun b F s σ H x y d e Q k I hx hy q kk => ?_⟩
  have hx' := hx.at I.sub
  have hy' := hy.at I.sub
  unfold dNotN at q
  split at q
  · cases hy'
    refine .inl ⟨rfl, ?_⟩
    rw [isn_dec hx']
    exact kk _ q
  · split at q
    · cases hx'; cases hy'
      exact .inr ⟨_, _, rfl, rfl, kk _ q⟩
    · exact q.elim
  · exact q.elim
end
end FL

/-! FL4: tests, subscripts, displays, calls. -/
namespace FL
open PySem PySem.Spec PyProof.Rows L2
section
variable {X : Cx} {L : Lw} {W : WX} {pos : Pos} {a c e : Expr} {ta tb tc te : TE} {wa wb wc we : We} {tA tB' : TT} {vA vB : Wt} {rest : List Expr}

/-! ### tests -/
def wAndT (va vb : Wt) : Wt := fun s Q R => va s (fun c => cond c (vb s Q R) (Q false)) R
def wOrT (va vb : Wt) : Wt := fun s Q R => va s (fun c => cond c (Q true) (vb s Q R)) R
def wNotT (va : Wt) : Wt := fun s Q R => va s (fun c => Q (!c)) R
theorem ft_w (h : FW X L W e tA vA) : FT X L W e tA vA := ⟨h.pe.pt, h.snd⟩
theorem fw_and1 (h : FT X L W a tA vA) : FW X L W (.BoolOp .And [a] pos) tA vA := ⟨pw_and1 h.pe, h.snd⟩
theorem fw_or1 (h : FT X L W a tA vA) : FW X L W (.BoolOp .Or [a] pos) tA vA := ⟨pw_or1 h.pe, h.snd⟩
theorem fw_and (ha : FT X L W a tA vA) (hb : FW X L W (.BoolOp .And (c :: rest) pos) tB' vB) : FW X L W (.BoolOp .And (a :: c :: rest) pos) (tAnd tA tB') (wAndT vA vB) := by
  refine ⟨pw_and ha.pe hb.pe, fun b F s σ H Q R k I h hx kk => ?_⟩
  refine ha.snd b F s σ H _ R _ I h hx fun F1 z H1 I1 m1 k1 h1 => ?_
  cases z with
  | true =>
    rw [if_pos rfl]
    exact hb.snd b F1 s σ H1 Q R k I1 h1 (hx.mono m1) fun F2 z2 H2 I2 m2 k2 q => kk F2 z2 H2 I2 (m1.trans m2) (k1.trans k2) q
  | false =>
    rw [if_neg Bool.false_ne_true]
    exact kk F1 false H1 I1 m1 k1 h1
theorem fw_or (ha : FT X L W a tA vA) (hb : FW X L W (.BoolOp .Or (c :: rest) pos) tB' vB) : FW X L W (.BoolOp .Or (a :: c :: rest) pos) (tOr tA tB') (wOrT vA vB) := by
  refine ⟨pw_or ha.pe hb.pe, fun b F s σ H Q R k I h hx kk => ?_⟩
  refine ha.snd b F s σ H _ R _ I h hx fun F1 z H1 I1 m1 k1 h1 => ?_
  cases z with
  | true =>
    rw [if_pos rfl]
    exact kk F1 true H1 I1 m1 k1 h1
  | false =>
    rw [if_neg Bool.false_ne_true]
    exact hb.snd b F1 s σ H1 Q R k I1 h1 (hx.mono m1) fun F2 z2 H2 I2 m2 k2 q => kk F2 z2 H2 I2 (m1.trans m2) (k1.trans k2) q
theorem ft_not (ha : FT X L W a tA vA) : FT X L W (.UnaryOp .Not a pos) (tNot tA) (wNotT vA) := by
  refine ⟨pt_not ha.pe, fun b F s σ H Q R k I h hx kk => ?_⟩
  exact ha.snd b F s σ H _ R _ I h hx fun F1 z H1 I1 m1 k1 h1 => kk F1 (!z) H1 I1 m1 k1 h1
/-- truth by data -/
def truOk : D → Prop
  | .str x => x.length ≤ sizeLine
  | .dict _ => False
  | _ => True
def truD : D → Bool
  | .none => false
  | .bool b => b
  | .int i => i != 0
  | .str x => (x.length : Int) != 0
  | .list xs => !xs.isEmpty
  | .tuple xs => !xs.isEmpty
  | .dict _ => false
theorem emp_len {vs : List V} {ds : List D} (h : vs.length = ds.length) : (!vs.isEmpty) = !ds.isEmpty := by
  cases vs <;> cases ds <;> first | rfl | simp at h
theorem tru_of {K : PySem.W.Frag} {H : Hp} {x : V} {d : D} (hx : Dt K H x d) (h : truOk d) : TruV K x H (truD d) := by
  cases hx with
  | non => rfl
  | bl b => rfl
  | int i => rfl
  | str x => exact ⟨h, rfl⟩
  | lst h1 h2 => exact .inl ⟨_, h1, (emp_len (dps_len h2)).symm⟩
  | tup h1 h2 => exact .inr (.inl ⟨_, h1, (emp_len (dps_len h2)).symm⟩)
def wTruT (wa : We) : Wt := fun s Q R => wa s (fun d => truOk d ∧ Q (truD d)) R
theorem ft_truth (ha : FB X L W a ta wa) (he : ∀ whole, isTrue a X.env whole = (do let v ← whole; standAt a.pos; holding [v] (truthy v)) := by intro _; rfl) : FT X L W a (fun σ H Q => ta σ H fun x H' => ∃ k, TruV X.K x H' k ∧ Q k H') (wTruT wa) := by
  refine ⟨pt_truth ha.pe he, fun b F s σ H Q R k I h hx kk => ?_⟩
  exact ha.snd b F s σ H _ R _ I h hx fun F1 d v H1 I1 m1 k1 r1 h1 => ⟨_, tru_of (r1.at I1.sub) h1.1, kk F1 _ H1 I1 m1 k1 h1.2⟩
def wNotV (wa : We) : We := fun s Q R => wa s (fun d => truOk d ∧ Q (.bool (!truD d))) R
theorem fe_not (ha : FB X L W a ta wa) : FE X L W (.UnaryOp .Not a pos) (tNotT X.K ta) (wNotV wa) := by
  refine ⟨pe_notT ha.pe, fun b F s σ H Q R k I h hx kk => ?_⟩
  exact ha.snd b F s σ H _ R _ I h hx fun F1 d v H1 I1 m1 k1 r1 h1 => ⟨_, tru_of (r1.at I1.sub) h1.1, kk F1 _ _ H1 I1 m1 k1 (.bl _) h1.2⟩
/-- and, or as values: the first by its truth -/
def wAndV (wa wb : We) : We := fun s Q R => wa s (fun d => truOk d ∧ cond (truD d) (wb s Q R) (Q d)) R
def wOrV (wa wb : We) : We := fun s Q R => wa s (fun d => truOk d ∧ cond (truD d) (Q d) (wb s Q R)) R
theorem fe_one {op : BoolOp} (ha : FE X L W a ta wa) : FE X L W (.BoolOp op [a] pos) ta wa := ⟨pe_one ha.pe, ha.snd⟩
theorem fe_andV (ha : FE X L W a ta wa) (hb : FE X L W (.BoolOp .And (c :: rest) pos) tb wb) : FE X L W (.BoolOp .And (a :: c :: rest) pos) (tAndT X.K ta tb) (wAndV wa wb) := by
  refine ⟨pe_andT ha.pe hb.pe, fun b F s σ H Q R k I h hx kk => ?_⟩
  refine ha.snd b F s σ H _ R _ I h hx fun F1 d v H1 I1 m1 k1 r1 h1 => ⟨truD d, tru_of (dp_mono I1.sub r1) h1.1, ?_⟩
  cases z : truD d with
  | true =>
    rw [if_pos rfl]
    exact hb.snd b F1 s σ H1 Q R k I1 (by have := h1.2; rw [z] at this; exact this) (hx.mono m1) fun F2 d2 v2 H2 I2 m2 k2 r2 q => kk F2 d2 v2 H2 I2 (m1.trans m2) (k1.trans k2) r2 q
  | false =>
    rw [if_neg Bool.false_ne_true]
    exact kk F1 d v H1 I1 m1 k1 r1 (by have := h1.2; rw [z] at this; exact this)
theorem fe_orV (ha : FE X L W a ta wa) (hb : FE X L W (.BoolOp .Or (c :: rest) pos) tb wb) : FE X L W (.BoolOp .Or (a :: c :: rest) pos) (tOrT X.K ta tb) (wOrV wa wb) := by
  refine ⟨pe_orT ha.pe hb.pe, fun b F s σ H Q R k I h hx kk => ?_⟩
  refine ha.snd b F s σ H _ R _ I h hx fun F1 d v H1 I1 m1 k1 r1 h1 => ⟨truD d, tru_of (dp_mono I1.sub r1) h1.1, ?_⟩
  cases z : truD d with
  | true =>
    rw [if_pos rfl]
    exact kk F1 d v H1 I1 m1 k1 r1 (by have := h1.2; rw [z] at this; exact this)
  | false =>
    rw [if_neg Bool.false_ne_true]
    exact hb.snd b F1 s σ H1 Q R k I1 (by have := h1.2; rw [z] at this; exact this) (hx.mono m1) fun F2 d2 v2 H2 I2 m2 k2 r2 q => kk F2 d2 v2 H2 I2 (m1.trans m2) (k1.trans k2) r2 q
def wIf (vt : Wt) (wa wb : We) : We := fun s Q R => vt s (fun c => cond c (wa s Q R) (wb s Q R)) R
theorem fe_if (ht : FT X L W e tA vA) (ha : FE X L W a ta wa) (hb : FE X L W c tb wb) : FE X L W (.IfExp e a c pos) (tIf tA ta tb) (wIf vA wa wb) := by
  refine ⟨pe_ifExp ht.pe ha.pe hb.pe, fun b F s σ H Q R k I h hx kk => ?_⟩
  refine ht.snd b F s σ H _ R _ I h hx fun F1 z H1 I1 m1 k1 h1 => ?_
  cases z with
  | true =>
    rw [if_pos rfl]
    exact ha.snd b F1 s σ H1 Q R k I1 h1 (hx.mono m1) fun F2 d2 v2 H2 I2 m2 k2 r2 q => kk F2 d2 v2 H2 I2 (m1.trans m2) (k1.trans k2) r2 q
  | false =>
    rw [if_neg Bool.false_ne_true]
    exact hb.snd b F1 s σ H1 Q R k I1 h1 (hx.mono m1) fun F2 d2 v2 H2 I2 m2 k2 r2 q => kk F2 d2 v2 H2 I2 (m1.trans m2) (k1.trans k2) r2 q
/-- a op1 b op2 c -/
def wChain (w w' : D → D → (Bool → Prop) → Prop) (wa wb wc : We) : Wt := fun s Q R => wa s (fun x => wb s (fun y => w x y fun c1 => cond c1 (wc s (fun z => w' y z Q) R) (Q false)) R) R
theorem snd_chain {op op' : CmpOp} {r r' : R2} {w w' : D → D → (Bool → Prop) → Prop} (o : CmD X L op r w) (o' : CmD X L op' r' w') (ha : FE X L W a ta wa) (hb : FE X L W c tb wb) (hc : FE X L W e tc wc)
    (b : Beg) (F : Hp) (s : Sl) (σ : L2.St) (H : Hp) (Q : Bool → Prop) (R : Value → Prop) (k : Bool → Hp → Prop) (I : Rel X.K L b F s σ H) (h : wChain w w' wa wb wc s Q R) (hx : Exw X.K L W b F s σ R)
    (kk : ∀ F' z H', Rel X.K L b F' s σ H' → Same F F' → Kp b H H' → Q z → k z H') : tChain r r' ta tb tc σ H fun x H' => ∃ z, x = .bl z ∧ k z H' := by
  refine ha.snd b F s σ H _ R _ I h hx fun F1 d1 v1 H1 I1 m1 k1 r1 h1 => ?_
  refine hb.snd b F1 s σ H1 _ R _ I1 h1 (hx.mono m1) fun F2 d2 v2 H2 I2 m2 k2 r2 h2 => ?_
  refine o.snd b F2 s σ H2 v1 v2 d1 d2 _ _ I2 (.inl (dp_mono m2 r1)) (.inl r2) h2 fun z q => ⟨z, rfl, ?_⟩
  cases z with
  | true =>
    rw [if_pos rfl]
    refine hc.snd b F2 s σ H2 _ R _ I2 q (hx.mono (m1.trans m2)) fun F3 d3 v3 H3 I3 m3 k3 r3 h3 => ?_
    exact o'.snd b F3 s σ H3 v2 v3 d2 d3 _ _ I3 (.inl (dp_mono m3 r2)) (.inl r3) h3 fun z q => ⟨z, rfl, kk F3 z H3 I3 (m1.trans (m2.trans m3)) (k1.trans (k2.trans k3)) q⟩
  | false =>
    rw [if_neg Bool.false_ne_true]
    exact ⟨false, rfl, kk F2 false H2 I2 (m1.trans m2) (k1.trans k2) q⟩
theorem ft_chain {op op' : CmpOp} {r r' : R2} {w w' : D → D → (Bool → Prop) → Prop} (o : CmD X L op r w) (o' : CmD X L op' r' w') (ha : FE X L W a ta wa) (hb : FE X L W c tb wb) (hc : FE X L W e tc wc)
    (hm : lastMarks [op, op'] [c, e] = false := by with_unfolding_all rfl) : FT X L W (.Compare a [op, op'] [c, e] pos) (tTest (tChain r r' ta tb tc)) (wChain w w' wa wb wc) :=
  ⟨pt_chain o.opr o'.opr ha.pe hb.pe hc.pe hm, fun b F s σ H Q R k I h hx kk => snd_chain o o' ha hb hc b F s σ H Q R k I h hx kk⟩
def wBoolV (v : Wt) : We := fun s Q R => v s (fun z => Q (.bool z)) R
theorem fe_chain {op op' : CmpOp} {r r' : R2} {w w' : D → D → (Bool → Prop) → Prop} (o : CmD X L op r w) (o' : CmD X L op' r' w') (ha : FE X L W a ta wa) (hb : FE X L W c tb wb) (hc : FE X L W e tc wc)
    (hm : lastMarks [op, op'] [c, e] = false := by with_unfolding_all rfl) : FE X L W (.Compare a [op, op'] [c, e] pos) (tChain r r' ta tb tc) (wBoolV (wChain w w' wa wb wc)) := by
  refine ⟨pe_chain o.opr o'.opr ha.pe hb.pe hc.pe hm, fun b F s σ H Q R k I h hx kk => ?_⟩
  refine ha.snd b F s σ H _ R _ I h hx fun F1 d1 v1 H1 I1 m1 k1 r1 h1 => ?_
  refine hb.snd b F1 s σ H1 _ R _ I1 h1 (hx.mono m1) fun F2 d2 v2 H2 I2 m2 k2 r2 h2 => ?_
  refine o.snd b F2 s σ H2 v1 v2 d1 d2 _ _ I2 (.inl (dp_mono m2 r1)) (.inl r2) h2 fun z q => ⟨z, rfl, ?_⟩
  cases z with
  | true =>
    rw [if_pos rfl]
    refine hc.snd b F2 s σ H2 _ R _ I2 q (hx.mono (m1.trans m2)) fun F3 d3 v3 H3 I3 m3 k3 r3 h3 => ?_
    exact o'.snd b F3 s σ H3 v2 v3 d2 d3 _ _ I3 (.inl (dp_mono m3 r2)) (.inl r3) h3 fun z q => kk F3 _ _ H3 I3 (m1.trans (m2.trans m3)) (k1.trans (k2.trans k3)) (.bl z) q
  | false =>
    rw [if_neg Bool.false_ne_true]
    exact kk F2 _ _ H2 I2 (m1.trans m2) (k1.trans k2) (.bl false) q

/-! ### a[i] -/
/-- the place of the item i -/
def wIx (wa wb : We) : We := fun s Q R => wa s (fun x => wb s (fun y => match x, y with
  | .list ds, .int i => ∃ d, atI ds i = some d ∧ Q d
  | .tuple ds, .int i => ∃ d, atI ds i = some d ∧ Q d
  | .str z, .int i => z.length ≤ sizeLine ∧ ∃ n, atI z.cps.toList i = some n ∧ Q (.str ⟨#[n]⟩)
  | _, _ => False) R) R
theorem atI_dps {K : PySem.W.Frag} {F : Hp} {vs : List V} {ds : List D} {i : Int} {d : D} (h : DtAll K F vs ds) (e : atI ds i = some d) : ∃ v, atI vs i = some v ∧ Dt K F v d := by
  unfold atI at e ⊢
  rw [dps_len h]
  cases q : ixN ds.length i with
  | none => rw [q] at e; cases e
  | some j =>
    rw [q] at e
    exact dps_get h e
theorem fe_ix (ha : FB X L W a ta wa) (hb : FE X L W c tb wb) (hs : PlainIx c := by intro _ _; rfl) : FE X L W (.Subscript a c pos) (tOp (rIx X.K) ta tb) (wIx wa wb) := by
  refine ⟨pe_ix ix_seq ha.pe hb.pe hs, fun b F s σ H Q R k I h hx kk => ?_⟩
  refine ha.snd b F s σ H _ R _ I h hx fun F1 d1 v1 H1 I1 m1 k1 r1 h1 => ?_
  refine hb.snd b F1 s σ H1 _ R _ I1 h1 (hx.mono m1) fun F2 d2 v2 H2 I2 m2 k2 r2 h2 => ?_
  have r1' := r1.keep m2 k2
  split at h2
  · cases r2
    obtain ⟨d, e1, q⟩ := h2
    rcases r1' with r1' | ⟨x, vs, ds', rfl, e2, e3, e4, e5⟩
    · cases r1' with
      | lst h3 h4 =>
        obtain ⟨v, e5, e6⟩ := atI_dps h4 e1
        exact .inl ⟨_, _, _, v, rfl, rfl, I2.sub.seq h3, e5, kk F2 d v H2 I2 (m1.trans m2) (k1.trans k2) e6 q⟩
    · cases e2
      obtain ⟨v, e6, e7⟩ := atI_dps e5 e1
      exact .inl ⟨_, _, _, v, rfl, rfl, .inl (.inl e4), e6, kk F2 d v H2 I2 (m1.trans m2) (k1.trans k2) e7 q⟩
  · cases r2
    obtain ⟨d, e1, q⟩ := h2
    rcases r1' with r1' | ⟨x, vs, ds', rfl, e2, e3, e4, e5⟩
    · cases r1' with
      | tup h3 h4 =>
        obtain ⟨v, e5, e6⟩ := atI_dps h4 e1
        exact .inr (.inl ⟨_, _, _, v, rfl, rfl, same_sqT I2.sub h3, e5, kk F2 d v H2 I2 (m1.trans m2) (k1.trans k2) e6 q⟩)
    · cases e2
  · cases r2
    obtain ⟨hl, n, e1, q⟩ := h2
    rcases r1' with r1' | ⟨x, vs, ds', rfl, e2, e3, e4, e5⟩
    · cases r1'
      exact .inr (.inr ⟨_, _, n, rfl, rfl, hl, e1, kk F2 _ _ H2 I2 (m1.trans m2) (k1.trans k2) (.str _) q⟩)
    · cases e2
  · exact h2.elim

/-! ### items from the left -/
structure FLs (X : Cx) (L : Lw) (W : WX) (es : List Expr) (t : TA) (w : Wl) : Prop where
  pe : PA X es t
  snd : ∀ (b : Beg) (F : Hp) (s : Sl) (σ : L2.St) (H : Hp) (Q : List D → Prop) (R : Value → Prop) (k : List V → Hp → Prop), Rel X.K L b F s σ H → w s Q R → Exw X.K L W b F s σ R →
    (∀ F' ds vs H', Rel X.K L b F' s σ H' → Same F F' → Kp b H H' → DtAll X.K F' vs ds → Q ds → k vs H') → t σ H k
def wNil : Wl := fun _ Q _ => Q []
def wCons (wa : We) (wr : Wl) : Wl := fun s Q R => wa s (fun x => wr s (fun xs => Q (x :: xs)) R) R
variable {es : List Expr} {t : TA} {wl : Wl}
theorem fl_nil : FLs X L W [] tNil wNil := ⟨pa_nil, fun b F s σ H Q R k I h hx kk => kk F [] [] H I (Same.refl F) Kp.refl .nil h⟩
theorem fl_cons (ha : FE X L W a ta wa) (hr : FLs X L W es t wl) (hs : starEach (a :: es) X.env = (false, eval a X.env) :: starEach es X.env := by rfl) : FLs X L W (a :: es) (tCons ta t) (wCons wa wl) := by
  refine ⟨pa_cons ha.pe hr.pe hs, fun b F s σ H Q R k I h hx kk => ?_⟩
  refine ha.snd b F s σ H _ R _ I h hx fun F1 d1 v1 H1 I1 m1 k1 r1 h1 => ?_
  exact hr.snd b F1 s σ H1 _ R _ I1 h1 (hx.mono m1) fun F2 ds vs H2 I2 m2 k2 r2 h2 => kk F2 _ _ H2 I2 (m1.trans m2) (k1.trans k2) (.cons (dp_mono m2 r1) r2) h2
def wTup (wl : Wl) : We := fun s Q R => wl s (fun ds => ds.length ≤ sizeLine ∧ Q (.tuple ds)) R
theorem fe_tup {k : Nat} (h : FLs X L W es t wl) : FE X L W (.Tuple es k pos) (tTup t) (wTup wl) := by
  refine ⟨pe_tup h.pe, fun b F s σ H Q R k I q hx kk => ?_⟩
  refine h.snd b F s σ H _ R _ I q hx fun F1 ds vs H1 I1 m1 k1 r1 h1 => ⟨by rw [dps_len r1]; exact h1.1, fun p hp => ?_⟩
  have hf := I1.f_none hp
  exact kk _ _ _ _ (I1.new1 hp (fun ps z => by cases z)) (m1.trans (same_upd hf)) (k1.trans (Kp.of (same_upd hp))) (.tup (.inl (.inl upd_same)) (dps_mono (same_upd hf) r1)) h1.2
def wLst (wl : Wl) : Wl := fun s Q R => wl s (fun ds => ds.length ≤ sizeLine ∧ Q ds) R
theorem fn_lst (h : FLs X L W es t wl) : FN X L W (.List es pos) (tLst t) (wLst wl) := by
  refine ⟨pe_lst h.pe, fun b F s σ H Q R k I q hx kk => ?_⟩
  refine h.snd b F s σ H _ R _ I q hx fun F1 ds vs H1 I1 m1 k1 r1 h1 => ⟨by rw [dps_len r1]; exact h1.1, fun p hp => ?_⟩
  exact kk F1 ds p vs _ (I1.lay hp) m1 (k1.trans (Kp.of (same_upd hp))) ⟨I1.live p hp, I1.dr_some hp, I1.f_none hp, fun i z => I1.ow_some hp i z⟩ upd_same r1 h1.2
/-- a new list as a datum -/
def wN (wl : Wl) : We := fun s Q R => wl s (fun ds => Q (.list ds)) R
theorem fe_n (h : FN X L W e te wl) : FE X L W e te (wN wl) := by
  refine ⟨h.pe, fun b F s σ H Q R k I q hx kk => ?_⟩
  refine h.snd b F s σ H _ R _ I q hx fun F1 ds p vs H1 I1 m1 k1 fr e1 r1 h1 => ?_
  exact kk _ _ _ _ (I1.tell fr.h0 fr.hd e1 fr.hf (fun ps z => by cases z) fr.hn) (m1.trans (same_upd fr.hf)) k1 (.lst (.inl (.inl upd_same)) (dps_mono (same_upd fr.hf) r1)) h1
/-- a new list, only looked at -/
theorem fb_n (h : FN X L W e te wl) : FB X L W e te (wN wl) := fb_fe (fe_n h)
end
end FL

/-! FL5: calls, defs, statements, loops. -/
namespace FL
open PySem PySem.Spec PyProof.Rows L2
section
variable {X : Cx} {L : Lw} {W : WX} {pos p : Pos} {a c e : Expr} {ta tb tc te : TE} {wa wb wc we : We} {tA tB' : TT} {vA vB : Wt} {rest es : List Expr} {t : TA} {wl : Wl} {v : Wa}

/-! ### arguments -/
theorem ArgOk.mono {K : PySem.W.Frag} {b : Beg} {F F' : Hp} {v : V} {c : Cel} (m : Same F F') (h : ArgOk K b F v c) : ArgOk K b F' v c := by
  cases c with
  | fz d => exact dp_mono m h
  | dr => exact h
  | no => exact h
  | ow ds => exact h
  | lk ds => exact h
theorem ArgsOk.mono {K : PySem.W.Frag} {b : Beg} {F F' : Hp} (m : Same F F') : ∀ {vs : List V} {cs : List Cel}, ArgsOk K b F vs cs → ArgsOk K b F' vs cs
  | [], [], h => h
  | _ :: _, _ :: _, h => ⟨h.1.mono m, ArgsOk.mono m h.2⟩
  | [], _ :: _, h => h.elim
  | _ :: _, [], h => h.elim
theorem ArgsOk.len {K : PySem.W.Frag} {b : Beg} {F : Hp} : ∀ {vs : List V} {cs : List Cel}, ArgsOk K b F vs cs → vs.length = cs.length
  | [], [], _ => rfl
  | _ :: _, _ :: _, h => by simp [ArgsOk.len h.2]
  | [], _ :: _, h => h.elim
  | _ :: _, [], h => h.elim
def wANil : Wa := fun _ Q _ => Q []
def wACons (wa : We) (wr : Wa) : Wa := fun s Q R => wa s (fun x => wr s (fun xs => Q (.fz x :: xs)) R) R
def wADr (i : Nat) (wr : Wa) : Wa := fun s Q R => match s[i]? with
  | some .dr => wr s (fun xs => Q (.dr :: xs)) R
  | _ => False
theorem fa_nil : FA X L W [] tNil wANil := ⟨pa_nil, fun b F s σ H Q R k I h hx kk => kk F [] [] H I (Same.refl F) Kp.refl trivial h⟩
theorem fa_cons (ha : FE X L W a ta wa) (hr : FA X L W es t v) (hs : starEach (a :: es) X.env = (false, eval a X.env) :: starEach es X.env := by rfl) : FA X L W (a :: es) (tCons ta t) (wACons wa v) := by
  refine ⟨pa_cons ha.pe hr.pe hs, fun b F s σ H Q R k I h hx kk => ?_⟩
  refine ha.snd b F s σ H _ R _ I h hx fun F1 d1 v1 H1 I1 m1 k1 r1 h1 => ?_
  exact hr.snd b F1 s σ H1 _ R _ I1 h1 (hx.mono m1) fun F2 ds vs H2 I2 m2 k2 r2 h2 => kk F2 (.fz d1 :: ds) _ H2 I2 (m1.trans m2) (k1.trans k2) ⟨dp_mono m2 r1, r2⟩ h2
theorem fa_dr (i : Nat) {x : Str} (hr : FA X L W es t v) (hN : X.N[i]? = some x := by rfl) (hv : Vis X.env.scope x := by first | exact Or.inl rfl | exact Or.inr (Or.inl rfl) | exact Or.inr (Or.inr rfl)) (hd : (x == ("__debug__" : Str)) = false := by decide)
    (hcd : (x == ("__classdict__" : Str)) = false := by decide) (hs : starEach (.Name x pos :: es) X.env = (false, eval (.Name x pos) X.env) :: starEach es X.env := by rfl) : FA X L W (.Name x pos :: es) (tCons (tVar i) t) (wADr i v) := by
  refine ⟨pa_cons (pv i hN hv hd hcd) hr.pe hs, fun b F s σ H Q R k I h hx kk => ?_⟩
  unfold wADr at h
  split at h
  · rename_i e
    obtain ⟨p, e1, e2⟩ := I.slot i _ e
    have e3 : σ[i]? = some (some (.ref p)) := by
      rw [List.getD_eq_getElem?_getD] at e1
      cases q : σ[i]? with
      | none => rw [q] at e1; cases e1
      | some u => rw [q] at e1; exact congrArg some e1
    refine ⟨_, e3, ?_⟩
    exact hr.snd b F s σ H _ R _ I h hx fun F2 ds vs H2 I2 m2 k2 r2 h2 => kk F2 (.dr :: ds) _ H2 I2 m2 k2 ⟨⟨p, rfl, e2⟩, r2⟩ h2
  · exact h.elim

/-! ### a def's promise by data -/
abbrev Fs := List Cel → (D → Prop) → (Value → Prop) → Prop
def Spf (K : PySem.W.Frag) (L : Lw) (w : Fs) : Sp := fun vs H Q E => ∃ (b : Beg) (F : Hp) (cs : List Cel) (q : D → Prop) (r : Value → Prop), Grd K L b F H ∧ ArgsOk K b F vs cs ∧ w cs q r ∧
  (∀ F' v d H', Grd K L b F' H' → Same F F' → Dt K F' v d → q d → Q v H') ∧ ∀ cls F' H', Grd K L b F' H' → Same F F' → r cls → E cls none H'
section
variable {K : PySem.W.Frag} {b : Beg} {F F' : Hp} {s : Sl} {σ : L2.St} {H H' : Hp}
theorem Grd.enter (I : Grd K L b F H) : Grd K L ⟨H, F, b.dr⟩ F H :=
  ⟨I.sub, Same.refl F, fun _ _ h => .inl h, Kp.refl, fun _ h => h, I.drw, I.tab, I.ntb⟩
theorem Grd.back (I : Grd K L b F H) (g : Grd K L ⟨H, F, b.dr⟩ F' H') : Grd K L b F' H' where
  sub := g.sub
  old := I.old.trans g.old
  new := fun a o h => by
    rcases g.new a o h with h | h
    · exact I.new a o h
    · exact .inr (I.live a h)
  keep := I.keep.trans g.keep
  live := fun a h => I.live a (g.live a h)
  drw := g.drw
  tab := g.tab
  ntb := g.ntb
theorem Rel.back (I : Rel K L b F s σ H) (g : Grd K L ⟨H, F, b.dr⟩ F' H') : Rel K L b F' s σ H' :=
  { I.toGrd.back g with
    len := I.len
    slot := fun i c e => (I.slot i c e).mono g.old (fun a h1 h2 => by
      cases q : F' a with
      | none => rfl
      | some o =>
        rcases g.new a o q with h | h
        · rw [show F a = some o from h] at h1; cases h1
        · exact absurd h h2) g.keep
    apart := I.apart }
end
def wCall (w : Fs) (v : Wa) : We := fun s Q R => v s (fun cs => w cs Q R) R
theorem ArgsOk.at {K : PySem.W.Frag} {b : Beg} {F H : Hp} : ∀ {vs : List V} {cs : List Cel}, ArgsOk K b F vs cs → ArgsOk K ⟨H, F, b.dr⟩ F vs cs
  | [], [], h => trivial
  | _ :: _, c :: _, h => ⟨by cases c <;> exact h.1, ArgsOk.at h.2⟩
  | [], _ :: _, h => h.elim
  | _ :: _, [], h => h.elim
theorem fe_call {x : Str} {k : Nat} {f : Addr} {fd : FuncData} {ps : List Str} {w : Fs} (G : FnOk X.prog X.w X.K X.mg X.base (L2.CX X.prog X.w) k f fd ps (Spf X.K L w)) (hr : Room k X.A) (tk : Takes X W) (hg : Gl X x) (hm : X.mg x = some (.ref f)) (hk : PySem.W.keepIn X.K (.ref f) = true) (hb : Binds X.K fd ps [])
    (ha : FA X L W (e :: es) t v) (hdb : (x == ("__debug__" : Str)) = false := by decide) (he : starEach (e :: es) X.env = (false, eval e X.env) :: starEach es X.env := by rfl) (hpl : (backTo pos (starEach es X.env)).any (·.1) = false := by rfl) :
    FE X L W (.Call (.Name x p) (e :: es) [] pos) (tCallS (Spf X.K L w) (fun σ cls d H => W cls d σ H) t) (wCall w v) := by
  refine ⟨pe_callS G hr hg hm hk hb (E := fun σ cls d H => W cls d σ H) (fun σ => passAt tk σ) ha.pe hdb he hpl, fun b F s σ H Q R k I h hx kk => ?_⟩
  refine ha.snd b F s σ H _ R _ I h hx fun F1 cs vs H1 I1 m1 k1 r1 h1 => ⟨⟨H1, F1, b.dr⟩, F1, cs, Q, R, I1.toGrd.enter, r1.at, h1, fun F' v d H' g m r q => ?_, fun cls F' H' g m q => ?_⟩
  · exact kk F' d v H' (I1.back g) (m1.trans m) (k1.trans g.keep) r q
  · exact hx cls F' H' (I1.back g) (m1.trans m) q

/-! ### a def's body -/
def startS (n : Nat) (cs : List Cel) : Sl := cs ++ List.replicate (n - cs.length) .no
theorem rel_start {K : PySem.W.Frag} {b : Beg} {F H : Hp} {N : List Str} {vs : List V} {cs : List Cel} (g : Grd K L b F H) (h : ArgsOk K b F vs cs) : Rel K L b F (startS N.length cs) (L2.start N vs) H := by
  have hl := h.len
  have notow : ∀ {vs : List V} {cs : List Cel}, ArgsOk K b F vs cs → ∀ (i : Nat) ds, cs[i]? ≠ some (.ow ds) := by
    intro vs cs
    induction cs generalizing vs with
    | nil => intro _ i ds z; simp at z
    | cons c cs ih =>
      intro h i ds z
      cases vs with
      | nil => exact h.elim
      | cons v vs =>
        cases i with
        | zero => simp at z; subst z; exact h.1
        | succ i => exact ih h.2 i ds (by simpa using z)
  have at_ : ∀ {vs : List V} {cs : List Cel}, ArgsOk K b F vs cs → ∀ (i : Nat) c, cs[i]? = some c → ∃ v, vs[i]? = some v ∧ ArgOk K b F v c := by
    intro vs cs
    induction cs generalizing vs with
    | nil => intro _ i c z; simp at z
    | cons c cs ih =>
      intro h i c' z
      cases vs with
      | nil => exact h.elim
      | cons v vs =>
        cases i with
        | zero => simp at z; subst z; exact ⟨v, rfl, h.1⟩
        | succ i =>
          obtain ⟨v', e, q⟩ := ih h.2 i c' (by simpa using z)
          exact ⟨v', by simpa using e, q⟩
  have noOw : ∀ (i : Nat), ¬ isOw (startS N.length cs)[i]? := fun i z => by
    unfold startS at z
    by_cases hi : i < cs.length
    · rw [List.getElem?_append_left hi] at z
      cases e : cs[i]? with
      | none => rw [e] at z; exact z
      | some c =>
        rw [e] at z
        cases c with
        | ow ds => exact notow h i ds e
        | _ => exact z
    · rw [List.getElem?_append_right (by omega), List.getElem?_replicate] at z
      split at z <;> exact z
  refine { g with len := ?_, slot := fun i c e => ?_, apart := fun i j a _ h1 => (noOw i h1).elim }
  · unfold startS L2.start
    simp [hl]
  · unfold startS at e
    by_cases hi : i < cs.length
    · rw [List.getElem?_append_left hi] at e
      obtain ⟨v, e1, q⟩ := at_ h i c e
      have e2 : (L2.start N vs).getD i none = some v := by
        unfold L2.start
        rw [List.getD_eq_getElem?_getD, List.getElem?_append_left (by simp; omega), List.getElem?_map, e1]
        rfl
      rw [e2]
      cases c with
      | no => trivial
      | fz d => exact ⟨v, rfl, q⟩
      | ow ds => exact q.elim
      | lk ds => exact q.elim
      | dr =>
        obtain ⟨a, e3, e4⟩ := q
        exact ⟨a, by rw [e3], e4⟩
    · rw [List.getElem?_append_right (by omega), List.getElem?_replicate] at e
      split at e
      · cases e; trivial
      · cases e
/-- a def by its body; the code object's value is told -/
theorem okC {P : Program} {w : World} {K : PySem.W.Frag} {mg : Str → Option Value} {base : Heap} {x qual : Str} {st : Stmt} {f : Addr} {fd : FuncData} {N ps : List Str} {k : Nat} {sp : Sp} (F : Fun K x qual st f fd) (S : FnScope N ps (defScope st)) (len : ∀ vs H Q E, sp vs H Q E → vs.length = ps.length)
    (hbody : ∀ (cdv : Value), fd.code = cdv → ∀ (A : Around) (outer : List Env) (s : Shared) (H : Hp) (vs : List V) (Q : VK) (E : XK), Room k (A.deeper (envOfC qual (defScope st) s.heap.objs.size f cdv)) → sp vs H Q E →
      ∃ t, PSs (cxOf (L2.CX P w) P w K mg base N qual (defScope st) f cdv A outer s H E) (defBody st) t ∧ t { nx := fun _ H' => Q .non H', rt := Q } (L2.start N vs) H) : FnOk P w K mg base (L2.CX P w) (k + 1) f fd ps sp := by
  obtain ⟨oc, od, kV, doc, pm, an, cdv, ct, osl, rfl, lk, hcd⟩ := F.ex
  exact fn_of lk hcd S len fun A outer s H vs Q E hr hsp => hbody cdv rfl A outer s H vs Q E hr hsp
/-- a def by its body: from the body's derivation and its reading -/
theorem fn_flat {P : Program} {w : World} {K : PySem.W.Frag} {mg : Str → Option Value} {base : Heap} {x qual : Str} {st : Stmt} {f : Addr} {fd : FuncData} {N ps : List Str} {k : Nat} {sp : Fs} (Fn : Fun K x qual st f fd) (S : FnScope N ps (defScope st)) (len : ∀ cs q r, sp cs q r → cs.length = ps.length)
    (hbody : ∀ (cdv : Value), fd.code = cdv → ∀ (A : Around) (outer : List Env) (s : Shared) (H : Hp) (E : XK), Room k (A.deeper (envOfC qual (defScope st) s.heap.objs.size f cdv)) →
      Takes (cxOf (L2.CX P w) P w K mg base N qual (defScope st) f cdv A outer s H E) (fun cls d _ H => E cls d H) →
      PassesOwn (model P w) (cxOf (L2.CX P w) P w K mg base N qual (defScope st) f cdv A outer s H E).A (cxOf (L2.CX P w) P w K mg base N qual (defScope st) f cdv A outer s H E).env (cxOf (L2.CX P w) P w K mg base N qual (defScope st) f cdv A outer s H E).xe →
      ∃ t ws, FSs (cxOf (L2.CX P w) P w K mg base N qual (defScope st) f cdv A outer s H E) L (fun cls d _ H => E cls d H) (defBody st) t ws ∧ ∀ cs q r, sp cs q r → ws (startS N.length cs) { nx := fun _ => q .none, rt := q, ex := r }) :
    FnOk P w K mg base (L2.CX P w) (k + 1) f fd ps (Spf K L sp) := by
  refine okC Fn S (fun vs H Q E h => ?_) (fun cdv hcd A outer s H vs Q E hr h => ?_)
  · obtain ⟨b, F, cs, q, r, g, ha, hw, _⟩ := h
    rw [ha.len]
    exact len cs q r hw
  · obtain ⟨t, ws, hd, hq⟩ := hbody cdv hcd A outer s H E hr (takes_of rfl rfl rfl rfl) (passes_of rfl)
    refine ⟨t, hd.pe, ?_⟩
    obtain ⟨b, F, cs, q, r, g, ha, hw, h1, h2⟩ := h
    refine hd.snd b F _ _ H { nx := fun _ => q .none, rt := q, ex := r } _ (rel_start g ha) (hq cs q r hw) ⟨fun F' s' σ' H' I m z => ?_, fun F' s' σ' H' v d I m r z => ?_, fun F' s' σ' H' I m z => z.elim, fun F' s' σ' H' I m z => z.elim, fun cls F' s' σ' H' I m z => ?_, fun F' s' σ' H' p vs ds I m fr e r z => z.elim⟩
    · exact h1 F' .non .none H' I.toGrd m .non z
    · exact h1 F' v d H' I.toGrd m r z
    · exact h2 cls F' H' I.toGrd m z
/-- a def that hands out a new list, nobody's so far -/
abbrev Fn := List Cel → (List D → Prop) → (Value → Prop) → Prop
def SpfN (K : PySem.W.Frag) (L : Lw) (w : Fn) : Sp := fun vs H Q E => ∃ (b : Beg) (F : Hp) (cs : List Cel) (q : List D → Prop) (r : Value → Prop), Grd K L b F H ∧ ArgsOk K b F vs cs ∧ w cs q r ∧
  (∀ F' p us ds H', Grd K L b F' H' → Same F F' → F' p = none → b.H0 p = none → b.dr ≠ some p → H' p = some (.lst us) → DtAll K F' us ds → q ds → Q (.ref p) H') ∧ ∀ cls F' H', Grd K L b F' H' → Same F F' → r cls → E cls none H'
theorem fn_flatN {P : Program} {w : World} {K : PySem.W.Frag} {mg : Str → Option Value} {base : Heap} {x qual : Str} {st : Stmt} {f : Addr} {fd : FuncData} {N ps : List Str} {k : Nat} {sp : Fn} (Fn : Fun K x qual st f fd) (S : FnScope N ps (defScope st)) (len : ∀ cs q r, sp cs q r → cs.length = ps.length)
    (hbody : ∀ (cdv : Value), fd.code = cdv → ∀ (A : Around) (outer : List Env) (s : Shared) (H : Hp) (E : XK), Room k (A.deeper (envOfC qual (defScope st) s.heap.objs.size f cdv)) →
      Takes (cxOf (L2.CX P w) P w K mg base N qual (defScope st) f cdv A outer s H E) (fun cls d _ H => E cls d H) →
      PassesOwn (model P w) (cxOf (L2.CX P w) P w K mg base N qual (defScope st) f cdv A outer s H E).A (cxOf (L2.CX P w) P w K mg base N qual (defScope st) f cdv A outer s H E).env (cxOf (L2.CX P w) P w K mg base N qual (defScope st) f cdv A outer s H E).xe →
      ∃ t ws, FSs (cxOf (L2.CX P w) P w K mg base N qual (defScope st) f cdv A outer s H E) L (fun cls d _ H => E cls d H) (defBody st) t ws ∧ ∀ cs q r, sp cs q r → ws (startS N.length cs) { nx := fun _ => False, rt := fun _ => False, ex := r, rn := q }) :
    FnOk P w K mg base (L2.CX P w) (k + 1) f fd ps (SpfN K L sp) := by
  refine okC Fn S (fun vs H Q E h => ?_) (fun cdv hcd A outer s H vs Q E hr h => ?_)
  · obtain ⟨b, F, cs, q, r, g, ha, hw, _⟩ := h
    rw [ha.len]
    exact len cs q r hw
  · obtain ⟨t, ws, hd, hq⟩ := hbody cdv hcd A outer s H E hr (takes_of rfl rfl rfl rfl) (passes_of rfl)
    refine ⟨t, hd.pe, ?_⟩
    obtain ⟨b, F, cs, q, r, g, ha, hw, h1, h2⟩ := h
    refine hd.snd b F _ _ H { nx := fun _ => False, rt := fun _ => False, ex := r, rn := q } _ (rel_start g ha) (hq cs q r hw) ⟨fun F' s' σ' H' I m z => z.elim, fun F' s' σ' H' v d I m r z => z.elim, fun F' s' σ' H' I m z => z.elim, fun F' s' σ' H' I m z => z.elim, fun cls F' s' σ' H' I m z => ?_, fun F' s' σ' H' p vs ds I m fr e r z => ?_⟩
    · exact h2 cls F' H' I.toGrd m z
    · exact h1 F' p vs ds H' I.toGrd m fr.hf fr.h0 fr.hd e r z
def wCallN (w : FL.Fn) (v : Wa) : Wl := fun s Q R => v s (fun cs => w cs Q R) R
theorem fn_call {x : Str} {k : Nat} {f : Addr} {fd : FuncData} {ps : List Str} {w : FL.Fn} (G : FnOk X.prog X.w X.K X.mg X.base (L2.CX X.prog X.w) k f fd ps (SpfN X.K L w)) (hr : Room k X.A) (tk : Takes X W) (hg : Gl X x) (hm : X.mg x = some (.ref f)) (hk : PySem.W.keepIn X.K (.ref f) = true) (hb : Binds X.K fd ps [])
    (ha : FA X L W (e :: es) t v) (hdb : (x == ("__debug__" : Str)) = false := by decide) (he : starEach (e :: es) X.env = (false, eval e X.env) :: starEach es X.env := by rfl) (hpl : (backTo pos (starEach es X.env)).any (·.1) = false := by rfl) :
    FN X L W (.Call (.Name x p) (e :: es) [] pos) (tCallS (SpfN X.K L w) (fun σ cls d H => W cls d σ H) t) (wCallN w v) := by
  refine ⟨pe_callS G hr hg hm hk hb (E := fun σ cls d H => W cls d σ H) (fun σ => passAt tk σ) ha.pe hdb he hpl, fun b F s σ H Q R k I h hx kk => ?_⟩
  refine ha.snd b F s σ H _ R _ I h hx fun F1 cs vs H1 I1 m1 k1 r1 h1 => ⟨⟨H1, F1, b.dr⟩, F1, cs, Q, R, I1.toGrd.enter, r1.at, h1, fun F' p us ds H' g m hf h0 hd e r q => ?_, fun cls F' H' g m q => ?_⟩
  · have I2 := I1.back g
    exact kk F' ds p us H' I2 (m1.trans m) (k1.trans g.keep) ⟨I1.live p h0, hd, hf, fun i z => I1.ow_some h0 i z⟩ e r q
  · exact hx cls F' H' (I1.back g) (m1.trans m) q
end
end FL

/-! FL6: statements, loops. -/
namespace FL
open PySem PySem.Spec PyProof.Rows L2
section
variable {X : Cx} {L : Lw} {W : WX} {pos p : Pos} {a c e : Expr} {ta tb tc te : TE} {wa wb wc we : We} {tA tB' : TT} {vA vB : Wt} {wl : Wl} {st : Stmt} {sts sts2 : List Stmt} {t t' : TS} {w w' : Ws}
theorem EnOk.mono {K : PySem.W.Frag} {b : Beg} {F F' : Hp} {E : En} {D' : Ends} (x : EnOk K L W b F E D') (m : Same F F') : EnOk K L W b F' E D' :=
  ⟨fun F1 s' σ' H' I m1 z => x.nx F1 s' σ' H' I (m.trans m1) z, fun F1 s' σ' H' v d I m1 r z => x.rt F1 s' σ' H' v d I (m.trans m1) r z, fun F1 s' σ' H' I m1 z => x.bk F1 s' σ' H' I (m.trans m1) z,
    fun F1 s' σ' H' I m1 z => x.ct F1 s' σ' H' I (m.trans m1) z, fun cls F1 s' σ' H' I m1 z => x.ex cls F1 s' σ' H' I (m.trans m1) z, fun F1 s' σ' H' p vs ds I m1 fr e r z => x.rn F1 s' σ' H' p vs ds I (m.trans m1) fr e r z⟩
theorem EnOk.exw {K : PySem.W.Frag} {b : Beg} {F : Hp} {E : En} {D' : Ends} (x : EnOk K L W b F E D') {s : Sl} {σ : L2.St} : Exw K L W b F s σ E.ex := fun cls F' H' I m q => x.ex cls F' s σ H' I m q
/-! ### blocks -/
def wNext : Ws := fun s E => E.nx s
def wSeq (w w' : Ws) : Ws := fun s E => w s { E with nx := fun s' => w' s' E }
theorem fss_nil : FSs X L W [] tNext wNext := ⟨pss_nil, fun b F s σ H E D' I h ok => ok.nx F s σ H I (Same.refl F) h⟩
theorem fss_cons (h1 : FS X L W st t w) (h2 : FSs X L W sts t' w') : FSs X L W (st :: sts) (tSeq t t') (wSeq w w') := by
  refine ⟨pss_cons h1.pe h2.pe, fun b F s σ H E D' I h ok => ?_⟩
  exact h1.snd b F s σ H { E with nx := fun s' => w' s' E } { D' with nx := t' D' } I h
    ⟨fun F1 s' σ' H' I1 m1 z => h2.snd b F1 s' σ' H' E D' I1 z (ok.mono m1), ok.rt, ok.bk, ok.ct, ok.ex, ok.rn⟩
theorem fss_one (h1 : FS X L W st t w) : FSs X L W [st] t w := ⟨pss_one h1.pe, h1.snd⟩
theorem fs_pass : FS X L W (.Pass pos) tNext wNext := ⟨ps_pass, fun b F s σ H E D' I h ok => ok.nx F s σ H I (Same.refl F) h⟩
theorem fs_break : FS X L W (.Break pos) tBreak (fun s E => E.bk s) := ⟨ps_break, fun b F s σ H E D' I h ok => ok.bk F s σ H I (Same.refl F) h⟩
theorem fs_continue : FS X L W (.Continue pos) tCont (fun s E => E.ct s) := ⟨ps_continue, fun b F s σ H E D' I h ok => ok.ct F s σ H I (Same.refl F) h⟩
def wDrop (wa : We) : Ws := fun s E => wa s (fun _ => E.nx s) E.ex
theorem fs_expr (ha : FE X L W a ta wa) (hs : swapsWith a none pos.line X.env = pure false := by rfl) : FS X L W (.Expr a pos) (tDrop ta) (wDrop wa) :=
  ⟨ps_expr ha.pe hs, fun b F s σ H E D' I h ok => ha.snd b F s σ H _ E.ex _ I h ok.exw fun F1 d v H1 I1 m1 k1 r1 q => ok.nx F1 s σ H1 I1 m1 q⟩
def wRet (wa : We) : Ws := fun s E => wa s E.rt E.ex
theorem fs_ret (ha : FE X L W a ta wa) : FS X L W (.Return (some a) pos) (tRet ta) (wRet wa) :=
  ⟨ps_ret ha.pe, fun b F s σ H E D' I h ok => ha.snd b F s σ H _ E.ex _ I h ok.exw fun F1 d v H1 I1 m1 k1 r1 q => ok.rt F1 s σ H1 v d I1 m1 r1 q⟩
theorem fs_retN : FS X L W (.Return none pos) tRetN (fun s E => E.rt .none) := ⟨ps_retN, fun b F s σ H E D' I h ok => ok.rt F s σ H .non .none I (Same.refl F) .non h⟩
/-- a new list handed out as nobody's -/
def wRetO (wl : Wl) : Ws := fun s E => wl s E.rn E.ex
theorem fs_retO (ha : FN X L W a ta wl) : FS X L W (.Return (some a) pos) (tRet ta) (wRetO wl) :=
  ⟨ps_ret ha.pe, fun b F s σ H E D' I h ok => ha.snd b F s σ H _ E.ex _ I h ok.exw fun F1 ds p vs H1 I1 m1 k1 fr e1 r1 q => ok.rn F1 s σ H1 p vs ds I1 m1 fr e1 r1 q⟩
def wIfS (v : Wt) (w w' : Ws) : Ws := fun s E => v s (fun c => cond c (w s E) (w' s E)) E.ex
theorem fs_if (ht : FT X L W e tA vA) (ha : FSs X L W sts t w) (hb : FSs X L W sts2 t' w') : FS X L W (.If e sts sts2 pos) (tIfS tA t t') (wIfS vA w w') := by
  refine ⟨ps_if ht.pe ha.pe hb.pe, fun b F s σ H E D' I h ok => ?_⟩
  refine ht.snd b F s σ H _ E.ex _ I h ok.exw fun F1 z H1 I1 m1 k1 h1 => ?_
  cases z with
  | true => rw [if_pos rfl]; exact ha.snd b F1 s σ H1 E D' I1 h1 (ok.mono m1)
  | false => rw [if_neg Bool.false_ne_true]; exact hb.snd b F1 s σ H1 E D' I1 h1 (ok.mono m1)
/-- ahead of a statement: the list of slot i is no longer to grow -/
def Sl.fix (s : Sl) (i : Nat) : Sl := match s[i]? with
  | some (.ow ds) => s.set i (.fz (.list ds))
  | _ => s
theorem Rel.fix {K : PySem.W.Frag} {b : Beg} {F : Hp} {s : Sl} {σ : L2.St} {H : Hp} (I : Rel K L b F s σ H) (i : Nat) : ∃ F', Rel K L b F' (s.fix i) σ H ∧ Same F F' := by
  unfold Sl.fix
  split
  · rename_i ds e
    obtain ⟨p, vs, e1, h0, hd, hf, hh, hs⟩ := I.slot i _ e
    have hi : i < σ.length := by rw [I.len]; exact (List.getElem?_eq_some_iff.mp e).1
    have e2 : σ[i]? = some (some (.ref p)) := by
      rw [List.getD_eq_getElem?_getD, List.getElem?_eq_getElem hi] at e1
      rw [List.getElem?_eq_getElem hi]
      exact congrArg some e1
    -- forget it, tell it, put it back
    have I1 : Rel K L b F (s.set i .no) (σ.set i (some (.ref p))) H := I.drop1
    have I2 : Rel K L b (upd F p (.lst vs)) (s.set i .no) (σ.set i (some (.ref p))) H := I1.tell h0 hd hh hf (fun ps z => by cases z) fun j z q => by
      have nj : j ≠ i := fun y => by
        subst y; rw [List.getElem?_set] at z
        split at z
        · split at z <;> exact z
        · rename_i y; exact absurd rfl y
      rw [List.getElem?_set_ne (Ne.symm nj)] at z q
      exact I.apart i j p (Ne.symm nj) (by rw [e]; trivial) z e2 q
    have I3 := I2.put (i := i) (v := .ref p) (d := .list ds) (.lst (.inl (.inl upd_same)) (dps_mono (same_upd hf) hs))
    rw [List.set_set, List.set_set] at I3
    have e3 : σ.set i (some (.ref p)) = σ := by
      apply List.ext_getElem?
      intro j
      by_cases q : j = i
      · subst q; rw [List.getElem?_set, if_pos rfl, if_pos hi, e2]
      · rw [List.getElem?_set_ne (Ne.symm q)]
    rw [e3] at I3
    exact ⟨_, I3, same_upd hf⟩
  · exact ⟨F, I, Same.refl F⟩
theorem fs_fix (i : Nat) (h : FS X L W st t w) : FS X L W st t (fun s E => w (s.fix i) E) := by
  refine ⟨h.pe, fun b F s σ H E D' I q ok => ?_⟩
  obtain ⟨F', I', m⟩ := I.fix i
  exact h.snd b F' _ σ H E D' I' q (ok.mono m)
/-! ### stores -/
def wgName (i : Nat) : Wg := fun d s Q => Q (s.set i (.fz d))
theorem snd_gname {K : PySem.W.Frag} (i : Nat) : SndG K L (gName i) (wgName i) := fun b F s σ H v d Q k I r h kk => kk F _ _ H (I.put r) (Same.refl F) h
theorem fg_name {i : Nat} {x : Str} (hN : X.N.Nodup) (hi : X.N[i]? = some x := by rfl) (hx : Loc X.env.scope x := by first | exact Or.inl rfl | exact Or.inr rfl) (hf : X.fn x = true ∨ X.env.scope.names.lookup x = some .local := by first | exact .inl rfl | exact .inr rfl | assumption) : FG X L (.Name x pos) (gName i) (wgName i) :=
  ⟨pg_name hN hi hx hf, snd_gname i⟩
def wgNil : List D → Sl → (Sl → Prop) → Prop := fun ds s Q => ds = [] ∧ Q s
def wgCons (g : Wg) (gs : List D → Sl → (Sl → Prop) → Prop) : List D → Sl → (Sl → Prop) → Prop := fun ds s Q => match ds with
  | d :: ds => g d s (fun s' => gs ds s' Q)
  | [] => False
variable {tg : Expr} {tgs : List Expr} {g : TG} {gs : TGs} {wg : Wg} {wgs : List D → Sl → (Sl → Prop) → Prop}
theorem fgs_nil : FGs X L [] gNil wgNil := ⟨pgs_nil, fun b F s σ H vs ds Q k I r h kk => by
  obtain ⟨rfl, h⟩ := h
  cases r
  exact ⟨rfl, kk F s σ H I (Same.refl F) h⟩⟩
theorem fgs_cons (h1 : FG X L tg g wg) (h2 : FGs X L tgs gs wgs) (he : (assignEach (tg :: tgs) X.env).map (·.2) = assign tg X.env :: (assignEach tgs X.env).map (·.2) := by rfl) : FGs X L (tg :: tgs) (gCons g gs) (wgCons wg wgs) := by
  refine ⟨pgs_cons h1.pe h2.pe he, fun b F s σ H vs ds Q k I r h kk => ?_⟩
  cases r with
  | nil => exact h.elim
  | cons r1 r2 => exact ⟨_, _, rfl, h1.snd b F s σ H _ _ _ _ I r1 h fun F1 s1 σ1 H1 I1 m1 q => h2.snd b F1 s1 σ1 H1 _ _ _ _ I1 (dps_mono m1 r2) q fun F2 s2 σ2 H2 I2 m2 q2 => kk F2 s2 σ2 H2 I2 (m1.trans m2) q2⟩
def wgTup (n : Nat) (wgs : List D → Sl → (Sl → Prop) → Prop) : Wg := fun d s Q => match d with
  | .tuple ds => ds.length = n ∧ wgs ds s Q
  | _ => False
theorem fg_tup {k n : Nat} (hc : X.calm = true) (h : FGs X L tgs gs wgs) (hn : (assignEach tgs X.env).length = n := by rfl) (hst : (assignEach tgs X.env).findIdx? (·.1) = none := by rfl) : FG X L (.Tuple tgs k pos) (gTup X.K n gs) (wgTup n wgs) := by
  refine ⟨pg_tup hc h.pe hn hst, fun b F s σ H v d Q k I r q kk => ?_⟩
  unfold wgTup at q
  split at q
  · cases r with
    | tup h1 h2 => exact ⟨_, _, rfl, same_sqT I.sub h1, by rw [dps_len h2]; exact q.1, h.snd b F s σ H _ _ _ _ I h2 q.2 kk⟩
  · exact q.elim
def wAsg (wa : We) (g : Wg) : Ws := fun s E => wa s (fun d => g d s E.nx) E.ex
theorem fs_asg (ha : FE X L W a ta wa) (hg : FG X L tg g wg) (hs : swapsWithSole [tg] a pos.line X.env = pure false := by rfl) (hw : swappedStores [tg] a X.env = pure none := by rfl) (h1 : (assignEach [tg] X.env).map (·.2) = [assign tg X.env] := by rfl) : FS X L W (.Assign [tg] a pos) (tAsg ta g) (wAsg wa wg) := by
  refine ⟨ps_asg ha.pe hg.pe hs hw h1, fun b F s σ H E D' I h ok => ?_⟩
  refine ha.snd b F s σ H _ E.ex _ I h ok.exw fun F1 d v H1 I1 m1 k1 r1 q => ?_
  exact hg.snd b F1 s σ H1 v d _ _ I1 r1 q fun F2 s2 σ2 H2 I2 m2 z => ok.nx F2 s2 σ2 H2 I2 (m1.trans m2) z
theorem fs_set {i : Nat} {x : Str} (hN : X.N.Nodup) (ha : FE X L W a ta wa) (hi : X.N[i]? = some x := by rfl) (hx : Loc X.env.scope x := by first | exact Or.inl rfl | exact Or.inr rfl) (hs : swapsWith a (some (.Name x p)) pos.line X.env = pure false := by rfl) (hf : X.fn x = true ∨ X.env.scope.names.lookup x = some .local := by first | exact .inl rfl | exact .inr rfl | assumption) :
    FS X L W (.Assign [.Name x p] a pos) (tAsg ta (gName i)) (wAsg wa (wgName i)) := by
  refine ⟨ps_set hN hi hx ha.pe hs hf, fun b F s σ H E D' I h ok => ?_⟩
  exact ha.snd b F s σ H _ E.ex _ I h ok.exw fun F1 d v H1 I1 m1 k1 r1 q => ok.nx F1 _ _ H1 (I1.put r1) m1 q
/-- a list of the def's own -/
def wSetO (i : Nat) (wl : Wl) : Ws := fun s E => wl s (fun ds => E.nx (s.set i (.ow ds))) E.ex
theorem fs_own {i : Nat} {x : Str} (hN : X.N.Nodup) (ha : FN X L W a ta wl) (hi : X.N[i]? = some x := by rfl) (hx : Loc X.env.scope x := by first | exact Or.inl rfl | exact Or.inr rfl) (hs : swapsWith a (some (.Name x p)) pos.line X.env = pure false := by rfl) (hf : X.fn x = true ∨ X.env.scope.names.lookup x = some .local := by first | exact .inl rfl | exact .inr rfl | assumption) :
    FS X L W (.Assign [.Name x p] a pos) (tAsg ta (gName i)) (wSetO i wl) := by
  refine ⟨ps_set hN hi hx ha.pe hs hf, fun b F s σ H E D' I h ok => ?_⟩
  exact ha.snd b F s σ H _ E.ex _ I h ok.exw fun F1 ds q vs H1 I1 m1 k1 fr e1 r1 z => ok.nx F1 _ _ H1 (I1.putO fr.h0 fr.hd fr.hf fr.hn e1 r1) m1 z
def wPar (i j : Nat) (wl : Wl) : Ws := fun s E => wl s (fun ds => match ds with
  | [d, e] => E.nx ((s.set i (.fz d)).set j (.fz e))
  | _ => False) E.ex
theorem fs_par {i j : Nat} {x y : Str} {px py pt pt2 : Pos} {kt k2 : Nat} {t : TA} (hc : X.calm = true) (hN : X.N.Nodup) (ha : FLs X L W [a, c] t wl) (hi : X.N[i]? = some x := by rfl) (hj : X.N[j]? = some y := by rfl) (hij : i ≠ j := by decide)
    (hx : X.env.scope.names.lookup x = some .local := by rfl) (hy : X.env.scope.names.lookup y = some .local := by rfl)
    (hw : swappedStores [.Tuple [.Name x px, .Name y py] kt pt] (.Tuple [a, c] k2 pt2) X.env = pure (some [x, y]) := by rfl)
    (hs : swapsWithSole [.Tuple [.Name x px, .Name y py] kt pt] (.Tuple [a, c] k2 pt2) pos.line X.env = pure false := by rfl) :
    FS X L W (.Assign [.Tuple [.Name x px, .Name y py] kt pt] (.Tuple [a, c] k2 pt2) pos) (tPar i j t) (wPar i j wl) := by
  refine ⟨ps_par hc hN hi hj hij hx hy ha.pe hw hs, fun b F s σ H E D' I h ok => ?_⟩
  refine ha.snd b F s σ H _ E.ex _ I h ok.exw fun F1 ds vs H1 I1 m1 k1 r1 q => ?_
  split at q
  · cases r1 with
    | cons h1 h2 =>
      cases h2 with
      | cons h2 h3 =>
        cases h3
        exact ⟨_, _, rfl, ok.nx F1 _ _ H1 ((I1.put h1).put h2) m1 q⟩
  · exact q.elim
def wPar3 (i j l : Nat) (wl : Wl) : Ws := fun s E => wl s (fun ds => match ds with
  | [d, e, f] => E.nx (((s.set i (.fz d)).set j (.fz e)).set l (.fz f))
  | _ => False) E.ex
theorem fs_par3 {i j l : Nat} {x y z : Str} {px py pz pt pt2 : Pos} {kt k2 : Nat} {t : TA} (hc : X.calm = true) (hN : X.N.Nodup) (ha : FLs X L W [a, c, e] t wl) (hi : X.N[i]? = some x := by rfl) (hj : X.N[j]? = some y := by rfl) (hl : X.N[l]? = some z := by rfl) (hij : i ≠ j := by decide) (hil : i ≠ l := by decide) (hjl : j ≠ l := by decide)
    (hx : X.env.scope.names.lookup x = some .local := by rfl) (hy : X.env.scope.names.lookup y = some .local := by rfl) (hz : X.env.scope.names.lookup z = some .local := by rfl)
    (hw : swappedStores [.Tuple [.Name x px, .Name y py, .Name z pz] kt pt] (.Tuple [a, c, e] k2 pt2) X.env = pure (some [x, y, z]) := by rfl)
    (hs : swapsWithSole [.Tuple [.Name x px, .Name y py, .Name z pz] kt pt] (.Tuple [a, c, e] k2 pt2) pos.line X.env = pure false := by rfl) :
    FS X L W (.Assign [.Tuple [.Name x px, .Name y py, .Name z pz] kt pt] (.Tuple [a, c, e] k2 pt2) pos) (tPar3 i j l t) (wPar3 i j l wl) := by
  refine ⟨ps_par3 hc hN hi hj hl hij hil hjl hx hy hz ha.pe hw hs, fun b F s σ H E D' I h ok => ?_⟩
  refine ha.snd b F s σ H _ E.ex _ I h ok.exw fun F1 ds vs H1 I1 m1 k1 r1 q => ?_
  split at q
  · cases r1 with
    | cons h1 h2 =>
      cases h2 with
      | cons h2 h3 =>
        cases h3 with
        | cons h3 h4 =>
          cases h4
          exact ⟨_, _, _, rfl, ok.nx F1 _ _ H1 (((I1.put h1).put h2).put h3) m1 q⟩
  · exact q.elim
/-- x op= e, ints -/
def wAug (i : Nat) (C : Int → Int → Prop) (f : Int → Int → Int) (wa : We) : Ws := fun s E => match s[i]? with
  | some (.fz (.int n)) => wa s (fun d => match d with
    | .int m => C n m ∧ E.nx (s.set i (.fz (.int (f n m))))
    | _ => False) E.ex
  | _ => False
theorem fs_aug {i : Nat} {x : Str} {op : Operator} {C : Int → Int → Prop} {f : Int → Int → Int} (ho : OpR X (inplaceOp op) (rI C fun i j => .int (f i j))) (hN : X.N.Nodup) (ha : FE X L W a ta wa) (hi : X.N[i]? = some x := by rfl) (hx : Loc X.env.scope x := by first | exact Or.inl rfl | exact Or.inr rfl)
    (hf : X.fn x = true ∨ X.env.scope.names.lookup x = some .local := by first | exact .inl rfl | exact .inr rfl | assumption) : FS X L W (.AugAssign (.Name x p) op a pos) (tAug i ta (rI C fun i j => .int (f i j))) (wAug i C f wa) := by
  refine ⟨ps_aug hN hi hx ha.pe ho hf, fun b F s σ H E D' I h ok => ?_⟩
  unfold wAug at h
  split at h
  · rename_i n e
    obtain ⟨v, e1, r⟩ := I.slot i _ e
    cases r
    have e2 : σ[i]? = some (some (.int n)) := by
      rw [List.getD_eq_getElem?_getD] at e1
      cases q : σ[i]? with
      | none => rw [q] at e1; cases e1
      | some u => rw [q] at e1; exact congrArg some e1
    refine ⟨_, e2, ha.snd b F s σ H _ E.ex _ I h ok.exw fun F1 d v H1 I1 m1 k1 r1 q => ?_⟩
    split at q
    · cases r1
      exact ⟨_, _, rfl, rfl, q.1, ok.nx F1 _ _ H1 (I1.put (.int _)) m1 q.2⟩
    · exact q.elim
  · exact h.elim
theorem aug_add : OpR X (inplaceOp .Add) (rI (fun _ _ => True) fun i j => .int (i + j)) := opI fun _ _ _ _ _ _ _ _ q => iadd_int q
theorem aug_sub : OpR X (inplaceOp .Sub) (rI (fun _ _ => True) fun i j => .int (i - j)) := opI fun _ _ _ _ _ _ _ _ q => isub_int q
theorem aug_mul : OpR X (inplaceOp .Mult) (rI MulOk fun i j => .int (i * j)) := opI fun _ _ _ _ _ _ _ hc q => imul_int q hc
/-! ### loops -/
/-- a for over ds: what holds ahead of each turn is yours -/
def wForL (g : Wg) (w : Ws) (ds : List D) : Ws := fun s E => ∃ I : Nat → Sl → Prop, I 0 s ∧ (∀ i d s', ds[i]? = some d → I i s' → g d s' (fun s1 => w s1 { E with nx := I (i + 1), ct := I (i + 1), bk := E.nx })) ∧ ∀ s', I ds.length s' → E.nx s'
def wFor (wi : Wl) (g : Wg) (w : Ws) : Ws := fun s E => wi s (fun ds => wForL g w ds s E) E.ex
/-- .. turn by turn -/
def wForR (g : Wg) (w : Ws) : List D → Ws
  | [], s, E => E.nx s
  | d :: ds, s, E => g d s (fun s1 => w s1 { E with nx := fun s2 => wForR g w ds s2 E, ct := fun s2 => wForR g w ds s2 E, bk := E.nx })
theorem for_turns {g : Wg} {w : Ws} {ds : List D} {s : Sl} {E : En} (h : wForR g w ds s E) : wForL g w ds s E := by
  refine ⟨fun i s' => wForR g w (ds.drop i) s' E, by dsimp only; rw [List.drop_zero]; exact h, fun i d s' e q => ?_, fun s' q => by dsimp only at q; rw [List.drop_length] at q; exact q⟩
  have hlt : i < ds.length := (List.getElem?_eq_some_iff.mp e).1
  have e2 : ds.drop i = d :: ds.drop (i + 1) := by
    rw [List.getElem?_eq_getElem hlt] at e
    rw [← Option.some.inj e]
    exact List.drop_eq_getElem_cons hlt
  dsimp only at q
  rw [e2] at q
  exact q
variable {ti : TI} {wi : Wl}
theorem fs_for (po : PassesOwn (model X.prog X.w) X.A X.env X.xe) (hc : X.calm = true) (hi : FI X L W tg e ti wi) (hg : FG X L tg g wg) (hb : FSs X L W sts t w) (hs : ∀ x, foldedSetIterable e X.env x = pure x := by intro _; rfl) :
    FS X L W (.For tg e sts [] pos) (tFor ti g t) (wFor wi wg w) := by
  refine ⟨ps_for po hc hi.pe hg.pe hb.pe hs, fun b F s σ H E D' I h ok => ?_⟩
  refine hi.snd b F s σ H _ E.ex _ I h ok.exw fun F0 ds J H0 I0 m0 k0 wk hq => ?_
  obtain ⟨Iv, iv0, ivs, ive⟩ := hq
  refine ⟨fun i m σ H => m = ds.length - i ∧ i ≤ ds.length ∧ ∃ F1 s1, Rel X.K L b F1 s1 σ H ∧ Same F0 F1 ∧ Iv i s1, ⟨ds.length, by omega, by omega, F0, s, I0, Same.refl F0, iv0⟩, ?_⟩
  rintro i m σ1 H1 ⟨rfl, hi', F1, s1, I1, m1, q⟩
  obtain ⟨hgo, hstop, hy⟩ := wk b F1 s1 σ1 H1 I1 m1 trivial
  by_cases hlt : i < ds.length
  · refine .inr ⟨hgo i hlt, fun σ' H' => ∃ F2 s2, Rel X.K L b F2 s2 σ' H' ∧ Same F0 F2 ∧ Iv (i + 1) s2, fun σ' H' z => ⟨ds.length - (i + 1), by omega, rfl, by omega, z⟩, fun x H' y => ?_⟩
    obtain ⟨F2, d, e1, I2, m2, k2, r2⟩ := hy i x H' hlt y
    refine hg.snd b F2 s1 σ1 H' x d _ _ I2 r2 (ivs i d s1 e1 q) fun F3 s3 σ3 H3 I3 m3 q3 => ?_
    have mm := m0.trans (m1.trans (m2.trans m3))
    refine hb.snd b F3 s3 σ3 H3 _ _ I3 q3 ⟨fun F4 s4 σ4 H4 I4 m4 z => ⟨F4, s4, I4, m1.trans (m2.trans (m3.trans m4)), z⟩, fun F4 s4 σ4 H4 v d I4 m4 r z => ok.rt F4 s4 σ4 H4 v d I4 (mm.trans m4) r z,
      fun F4 s4 σ4 H4 I4 m4 z => ok.nx F4 s4 σ4 H4 I4 (mm.trans m4) z, fun F4 s4 σ4 H4 I4 m4 z => ⟨F4, s4, I4, m1.trans (m2.trans (m3.trans m4)), z⟩,
      fun cls F4 s4 σ4 H4 I4 m4 z => ok.ex cls F4 s4 σ4 H4 I4 (mm.trans m4) z, fun F4 s4 σ4 H4 p vs ds I4 m4 fr e r z => ok.rn F4 s4 σ4 H4 p vs ds I4 (mm.trans m4) fr e r z⟩
  · have e : i = ds.length := by omega
    subst e
    exact .inl ⟨hstop, ok.nx F1 s1 σ1 H1 I1 (m0.trans m1) (ive s1 q)⟩
/-- a while: what holds ahead of each turn, by a number that falls -/
def wWhile (v : Wt) (w : Ws) : Ws := fun s E => ∃ I : Nat → Sl → Prop, (∃ m, I m s) ∧ ∀ m s', I m s' → v s' (fun c => cond c (w s' { E with nx := fun s2 => ∃ m', m' < m ∧ I m' s2, ct := fun s2 => ∃ m', m' < m ∧ I m' s2, bk := E.nx }) (E.nx s')) E.ex
theorem fs_while (po : PassesOwn (model X.prog X.w) X.A X.env X.xe) (ht : FT X L W e tA vA) (hb : FSs X L W sts t w) : FS X L W (.While e sts [] pos) (tWhile tA t) (wWhile vA w) := by
  refine ⟨ps_while po ht.pe hb.pe, fun b F s σ H E D' I h ok => ?_⟩
  obtain ⟨Iv, ⟨n0, h⟩, hst⟩ := h
  refine ⟨fun m σ H => ∃ F1 s1, Rel X.K L b F1 s1 σ H ∧ Same F F1 ∧ Iv m s1, ⟨n0, F, s, I, Same.refl F, h⟩, ?_⟩
  rintro m σ1 H1 ⟨F1, s1, I1, m1, q⟩
  refine ht.snd b F1 s1 σ1 H1 _ E.ex _ I1 (hst m s1 q) (ok.mono m1).exw fun F2 z H2 I2 m2 k2 q2 => ?_
  cases z with
  | false => rw [if_neg Bool.false_ne_true]; exact ok.nx F2 s1 σ1 H2 I2 (m1.trans m2) q2
  | true =>
    rw [if_pos rfl]
    refine ⟨fun σ' H' => ∃ m', m' < m ∧ ∃ F3 s3, Rel X.K L b F3 s3 σ' H' ∧ Same F F3 ∧ Iv m' s3, fun σ' H' z => z, ?_⟩
    exact hb.snd b F2 s1 σ1 H2 _ _ I2 q2 ⟨fun F4 s4 σ4 H4 I4 m4 ⟨m', hm, z⟩ => ⟨m', hm, F4, s4, I4, m1.trans (m2.trans m4), z⟩, fun F4 s4 σ4 H4 v d I4 m4 r z => ok.rt F4 s4 σ4 H4 v d I4 (m1.trans (m2.trans m4)) r z,
      fun F4 s4 σ4 H4 I4 m4 z => ok.nx F4 s4 σ4 H4 I4 (m1.trans (m2.trans m4)) z, fun F4 s4 σ4 H4 I4 m4 ⟨m', hm, z⟩ => ⟨m', hm, F4, s4, I4, m1.trans (m2.trans m4), z⟩, fun cls F4 s4 σ4 H4 I4 m4 z => ok.ex cls F4 s4 σ4 H4 I4 (m1.trans (m2.trans m4)) z,
      fun F4 s4 σ4 H4 p vs ds I4 m4 fr e r z => ok.rn F4 s4 σ4 H4 p vs ds I4 (m1.trans (m2.trans m4)) fr e r z⟩
end
end FL

/-! FL7: what is walked; built-in calls. -/
namespace FL
open PySem PySem.Spec PyProof.Rows L2
section
variable {X : Cx} {L : Lw} {W : WX} {pos p : Pos} {tg a c e : Expr} {ta tb tc te : TE} {wa wb wc we : We} {wl : Wl} {t : TA}
/-! ### what is walked -/
def sgn (n : Nat) : D := .str ⟨#[n]⟩
def seqD : D → (List D → Prop) → Prop
  | .list ds, Q => Q ds
  | .tuple ds, Q => Q ds
  | .str z, Q => Q (z.cps.toList.map sgn)
  | _, _ => False
abbrev iSeq (K : PySem.W.Frag) (te : TE) : TI := fun σ H R => te σ H fun x H1 => (∃ a, x = .ref a ∧ (∃ xs, SqL K H1 a xs) ∧ R (Itl K a) H1) ∨ (∃ a, x = .ref a ∧ (∃ xs, SqT K H1 a xs) ∧ R (Itt K a) H1) ∨ ∃ z, x = .str z ∧ R (Its z) H1
theorem pi_seq (he : PE X e te) : PI X tg e (iSeq X.K te) := by
  refine ⟨fun pins s σ H R I h => ?_⟩
  refine thn (he.run pins s σ H _ I h) fun v s1 h1 => ?_
  obtain ⟨x, H1, I1, r1, q⟩ := h1
  rcases q with ⟨p, rfl, ⟨xs, hq⟩, q⟩ | ⟨p, rfl, ⟨xs, hq⟩, q⟩ | ⟨x, rfl, q⟩
  · cases r1
    obtain ⟨its, rv, pl, hz⟩ := I1.list hq
    exact wpAny_pyIter_list pl.isList (pi_one (tk := s1.toks) I1 _ (turn_list p _) ⟨_, Heap.get?_push_size _ rfl, rfl, rfl⟩ q)
  · cases r1
    obtain ⟨its, rv, pl, hz⟩ := I1.tuple hq
    exact wpAny_pyIter_tuple (show s1.heap.IsTuple p its.toArray from pl) (pi_one (tk := s1.toks) I1 _ (turn_tuple p _) ⟨_, Heap.get?_push_size _ rfl, rfl, rfl⟩ q)
  · obtain ⟨t, rfl⟩ := r1
    cases ha : x.cps.all (· < 128)
    · exact wpAny_pyIter_wide ha (pi_one (tk := s1.toks) I1 _ (turn_str _ x t "str_iterator" (.inr rfl)) ⟨_, Heap.get?_push_size _ rfl, rfl, rfl⟩ q)
    · exact wpAny_pyIter_ascii ha (pi_one (tk := s1.toks) I1 _ (turn_str _ x t "str_ascii_iterator" (.inl rfl)) ⟨_, Heap.get?_push_size _ rfl, rfl, rfl⟩ q)
def wSeqI (wa : We) : Wl := fun s Q R => wa s (fun d => seqD d Q) R
section
variable {K : PySem.W.Frag} {b : Beg} {F H : Hp}
theorem wkd_same {J : It} {ds : List D} {n : Nat} {G : Hp → Prop} {Y : Nat → V → Prop} (hw : Walk J n G (fun i H x H' => H' = H ∧ Y i x)) (hn : n = ds.length) {P : Sl → L2.St → Prop} (hG : ∀ (b1 : Beg) F1 s1 σ1 H1, Rel K L b1 F1 s1 σ1 H1 → Same F F1 → P s1 σ1 → G H1)
    (hY : ∀ F1, Same F F1 → ∀ i x, i < n → Y i x → ∃ d, ds[i]? = some d ∧ Dt K F1 x d) : WalkD K L b F P J ds := by
  subst hn
  intro b1 F1 s1 σ1 H1 I1 m1 hp
  have g := hG b1 F1 s1 σ1 H1 I1 m1 hp
  refine ⟨fun i hi => hw.goes i H1 hi g, hw.stops H1 g, fun i x H' hi y => ?_⟩
  obtain ⟨e, y⟩ := hw.yields i H1 x H' hi g y
  obtain ⟨d, e1, r⟩ := hY F1 m1 i x hi y
  subst e
  exact ⟨F1, d, e1, I1, Same.refl F1, Kp.refl, r⟩
theorem wkd_list {a : Addr} {xs : List V} {ds : List D} (h : SqL K F a xs) (r : DtAll K F xs ds) : WalkD K L b F (fun _ _ => True) (Itl K a) ds :=
  wkd_same (walk_list (K := K) (a := a) (xs := xs)) (dps_len r) (fun _ F1 s1 σ1 H1 I1 m1 _ => I1.sub.seq (m1.seq h)) fun F1 m1 i x hi y => dps_getv (dps_mono m1 r) y
theorem wkd_tup {a : Addr} {xs : List V} {ds : List D} (h : SqT K F a xs) (r : DtAll K F xs ds) : WalkD K L b F (fun _ _ => True) (Itt K a) ds :=
  wkd_same (walk_tup (K := K) (a := a) (xs := xs)) (dps_len r) (fun _ F1 s1 σ1 H1 I1 m1 _ => same_sqT I1.sub (same_sqT m1 h)) fun F1 m1 i x hi y => dps_getv (dps_mono m1 r) y
theorem wkd_str {z : Str} : WalkD K L b F (fun _ _ => True) (Its z) (z.cps.toList.map sgn) :=
  wkd_same (walk_str (z := z)) (by simp) (fun _ _ _ _ _ _ _ _ => trivial) fun F1 m1 i x hi y => by
    obtain ⟨c, e, rfl⟩ := y
    exact ⟨sgn c, by rw [List.getElem?_map, Array.getElem?_toList, e]; rfl, .str _⟩
end
theorem fi_seq (he : FE X L W e te we) : FI X L W tg e (iSeq X.K te) (wSeqI we) := by
  refine ⟨pi_seq he.pe, fun b F s σ H Q R k I h hx kk => ?_⟩
  refine he.snd b F s σ H _ R _ I h hx fun F1 d v H1 I1 m1 k1 r1 q => ?_
  cases r1 with
  | lst h1 h2 => exact .inl ⟨_, rfl, ⟨_, I1.sub.seq h1⟩, kk F1 _ _ H1 I1 m1 k1 (wkd_list h1 h2) q⟩
  | tup h1 h2 => exact .inr (.inl ⟨_, rfl, ⟨_, same_sqT I1.sub h1⟩, kk F1 _ _ H1 I1 m1 k1 (wkd_tup h1 h2) q⟩)
  | str z => exact .inr (.inr ⟨_, rfl, kk F1 _ _ H1 I1 m1 k1 wkd_str q⟩)
  | _ => exact q.elim
/-- range -/
def rngD (lo : Int) (n : Nat) : List D := (List.range n).map fun i => .int (lo + (i : Nat))
def rngC (lo c : Int) (n : Nat) : List D := (List.range n).map fun i => .int (lo + (i : Nat) * c)
def RgI (i : Int) : Prop := -(2 ^ 62) ≤ i ∧ i < 2 ^ 62
def wRng1 (wl : Wl) : Wl := fun s Q R => wl s (fun ds => match ds with
  | [.int n] => RgI n ∧ Q (rngD 0 n.toNat)
  | _ => False) R
def wRng2 (wl : Wl) : Wl := fun s Q R => wl s (fun ds => match ds with
  | [.int m, .int n] => RgI m ∧ RgI n ∧ Q (rngD m (n - m).toNat)
  | _ => False) R
def wRng3 (wl : Wl) : Wl := fun s Q R => wl s (fun ds => match ds with
  | [.int m, .int n, .int c] => ∃ k, RgC m n c k ∧ Q (rngC m c k)
  | _ => False) R
theorem rng_at {lo : Int} {n : Nat} {K : PySem.W.Frag} {F : Hp} {i : Nat} {x : V} (hi : i < n) (e : x = .int (lo + i)) : ∃ d, (rngD lo n)[i]? = some d ∧ Dt K F x d := by
  subst e
  exact ⟨.int (lo + i), by simp [rngD, hi], .int _⟩
theorem wkd_rng {K : PySem.W.Frag} {b : Beg} {F : Hp} {lo : Int} {n : Nat} : WalkD K L b F (fun _ _ => True) (Itr lo n) (rngD lo n) :=
  wkd_same (walk_range (lo := lo) (n := n)) (by simp [rngD]) (fun _ _ _ _ _ _ _ _ => trivial) fun F1 m1 i x hi y => rng_at hi y
theorem wkd_rngC {K : PySem.W.Frag} {b : Beg} {F : Hp} {lo c : Int} {n : Nat} : WalkD K L b F (fun _ _ => True) (Itc lo c n) (rngC lo c n) :=
  wkd_same (walk_rangeC (lo := lo) (c := c) (n := n)) (by simp [rngC]) (fun _ _ _ _ _ _ _ _ => trivial) fun F1 m1 i x hi y => by
    have y' : x = .int (lo + (i : Nat) * c) := y
    subst y'
    exact ⟨.int (lo + (i : Nat) * c), by simp [rngC, hi], .int _⟩
theorem fi_rng1 (hm : X.mg "range" = none) (ha : FLs X L W [a] t wl) (hg : Gl X "range" := by rfl) (hs : starEach [a] X.env = [(false, eval a X.env)] := by rfl) : FI X L W tg (.Call (.Name "range" p) [a] [] pos) (iRng1 t) (wRng1 wl) := by
  refine ⟨pi_range1 hg hm ha.pe hs, fun b F s σ H Q R k I h hx kk => ?_⟩
  refine ha.snd b F s σ H _ R _ I h hx fun F1 ds vs H1 I1 m1 k1 r1 q => ?_
  split at q
  · cases r1 with
    | cons h1 h2 =>
      cases h1
      cases h2
      exact ⟨_, rfl, q.1.1, q.1.2, kk F1 _ _ H1 I1 m1 k1 wkd_rng q.2⟩
  · exact q.elim
theorem fi_rng2 (hm : X.mg "range" = none) (ha : FLs X L W [a, c] t wl) (hg : Gl X "range" := by rfl) (hs : starEach [a, c] X.env = [(false, eval a X.env), (false, eval c X.env)] := by rfl) (hs2 : starEach [c] X.env = [(false, eval c X.env)] := by rfl) : FI X L W tg (.Call (.Name "range" p) [a, c] [] pos) (iRng2 t) (wRng2 wl) := by
  refine ⟨pi_range2 hg hm ha.pe hs hs2, fun b F s σ H Q R k I h hx kk => ?_⟩
  refine ha.snd b F s σ H _ R _ I h hx fun F1 ds vs H1 I1 m1 k1 r1 q => ?_
  split at q
  · cases r1 with
    | cons h1 h2 =>
      cases h1
      cases h2 with
      | cons h2 h3 =>
        cases h2
        cases h3
        exact ⟨_, _, rfl, ⟨q.1.1, q.1.2, q.2.1.1, q.2.1.2⟩, kk F1 _ _ H1 I1 m1 k1 wkd_rng q.2.2⟩
  · exact q.elim
/-! ### built-in functions by data -/
structure CalD (X : Cx) (L : Lw) (f : Value) (r : List V → Hp → VK → Prop) (w : List D → (D → Prop) → Prop) : Prop where
  opr : CallR X f r
  snd : ∀ (b : Beg) (F : Hp) (s : Sl) (σ : L2.St) (H : Hp) (vs : List V) (ds : List D) (Q : D → Prop) (k : VK), Rel X.K L b F s σ H → DtAll X.K F vs ds → w ds Q →
    (∀ F' c v H', Rel X.K L b F' s σ H' → Same F F' → Kp b H H' → Dt X.K F' v c → Q c → k v H') → r vs H k
def wCal (w : List D → (D → Prop) → Prop) (wl : Wl) : We := fun s Q R => wl s (fun ds => w ds Q) R
variable {x : Str} {id T : String} {es : List Expr} {r : List V → Hp → VK → Prop} {w : List D → (D → Prop) → Prop}
theorem fe_bi (o : CalD X L (.builtin id) r w) (hm : X.mg x = none) (hv : bootBuiltins x = some (.builtin id)) (ha : FLs X L W (e :: es) t wl) (hg : Gl X x := by rfl) (hn : x ≠ "__name__" := by decide) (hdb : (x == ("__debug__" : Str)) = false := by decide)
    (he : starEach (e :: es) X.env = (false, eval e X.env) :: starEach es X.env := by rfl) (hpl : (backTo pos (starEach es X.env)).any (·.1) = false := by rfl) : FE X L W (.Call (.Name x p) (e :: es) [] pos) (tCB r t) (wCal w wl) := by
  refine ⟨pe_callB o.opr hg hm hv ha.pe hn hdb he hpl, fun b F s σ H Q R k I h hx kk => ?_⟩
  refine ha.snd b F s σ H _ R _ I h hx fun F1 ds vs H1 I1 m1 k1 r1 q => ?_
  exact o.snd b F1 s σ H1 vs ds Q k I1 r1 q fun F2 c v H2 I2 m2 k2 r2 z => kk F2 c v H2 I2 (m1.trans m2) (k1.trans k2) r2 z
theorem fe_ty (o : CalD X L (.type T) r w) (hm : X.mg x = none) (hv : bootBuiltins x = some (.type T)) (ha : FLs X L W (e :: es) t wl) (hg : Gl X x := by rfl) (hn : x ≠ "__name__" := by decide) (hdb : (x == ("__debug__" : Str)) = false := by decide)
    (he : starEach (e :: es) X.env = (false, eval e X.env) :: starEach es X.env := by rfl) (hpl : (backTo pos (starEach es X.env)).any (·.1) = false := by rfl) : FE X L W (.Call (.Name x p) (e :: es) [] pos) (tCB r t) (wCal w wl) := by
  refine ⟨pe_callTy o.opr hg hm hv ha.pe hn hdb he hpl, fun b F s σ H Q R k I h hx kk => ?_⟩
  refine ha.snd b F s σ H _ R _ I h hx fun F1 ds vs H1 I1 m1 k1 r1 q => ?_
  exact o.snd b F1 s σ H1 vs ds Q k I1 r1 q fun F2 c v H2 I2 m2 k2 r2 z => kk F2 c v H2 I2 (m1.trans m2) (k1.trans k2) r2 z
abbrev rAbs : List V → Hp → VK → Prop := fun xs H Q => ∃ i, xs = [.int i] ∧ Q (.int (if i < 0 then -i else i)) H
abbrev rMax2 : List V → Hp → VK → Prop := fun xs H Q => ∃ i j, xs = [.int i, .int j] ∧ Q (.int (if j > i then j else i)) H
abbrev rMin2 : List V → Hp → VK → Prop := fun xs H Q => ∃ i j, xs = [.int i, .int j] ∧ Q (.int (if j < i then j else i)) H
abbrev rInt1 : List V → Hp → VK → Prop := fun xs H Q => (∃ i, xs = [.int i] ∧ Q (.int i) H) ∨ ∃ k, xs = [.bl k] ∧ Q (.int (if k then 1 else 0)) H
abbrev rLen (K : PySem.W.Frag) : List V → Hp → VK → Prop := fun xs H Q => ∃ x n, xs = [x] ∧ LenV K x H n ∧ Q (.int n) H
def dAbs : List D → (D → Prop) → Prop := fun ds Q => match ds with
  | [.int i] => Q (.int (if i < 0 then -i else i))
  | _ => False
theorem cal_abs : CalD X L (.builtin "abs") rAbs dAbs := by
  refine ⟨call_abs, fun b F s σ H vs ds Q k I h q kk => ?_⟩
  unfold dAbs at q
  split at q
  · cases h with
    | cons h1 h2 => cases h1; cases h2; exact ⟨_, rfl, kk F _ _ H I (Same.refl F) Kp.refl (.int _) q⟩
  · exact q.elim
def dMax2 : List D → (D → Prop) → Prop := fun ds Q => match ds with
  | [.int i, .int j] => Q (.int (if j > i then j else i))
  | _ => False
theorem cal_max2 (hc : X.calm = true) : CalD X L (.builtin "max") rMax2 dMax2 := by
  refine ⟨call_max2 hc, fun b F s σ H vs ds Q k I h q kk => ?_⟩
  unfold dMax2 at q
  split at q
  · cases h with
    | cons h1 h2 =>
      cases h1
      cases h2 with
      | cons h2 h3 => cases h2; cases h3; exact ⟨_, _, rfl, kk F _ _ H I (Same.refl F) Kp.refl (.int _) q⟩
  · exact q.elim
def dMin2 : List D → (D → Prop) → Prop := fun ds Q => match ds with
  | [.int i, .int j] => Q (.int (if j < i then j else i))
  | _ => False
theorem cal_min2 (hc : X.calm = true) : CalD X L (.builtin "min") rMin2 dMin2 := by
  refine ⟨call_min2 hc, fun b F s σ H vs ds Q k I h q kk => ?_⟩
  unfold dMin2 at q
  split at q
  · cases h with
    | cons h1 h2 =>
      cases h1
      cases h2 with
      | cons h2 h3 => cases h2; cases h3; exact ⟨_, _, rfl, kk F _ _ H I (Same.refl F) Kp.refl (.int _) q⟩
  · exact q.elim
def dInt1 : List D → (D → Prop) → Prop := fun ds Q => match ds with
  | [.int i] => Q (.int i)
  | [.bool b] => Q (.int (if b then 1 else 0))
  | _ => False
theorem cal_int1 : CalD X L (.type "int") rInt1 dInt1 := by
  refine ⟨call_int1, fun b F s σ H vs ds Q k I h q kk => ?_⟩
  unfold dInt1 at q
  split at q
  · cases h with
    | cons h1 h2 => cases h1; cases h2; exact .inl ⟨_, rfl, kk F _ _ H I (Same.refl F) Kp.refl (.int _) q⟩
  · cases h with
    | cons h1 h2 => cases h1; cases h2; exact .inr ⟨_, rfl, kk F _ _ H I (Same.refl F) Kp.refl (.int _) q⟩
  · exact q.elim
/-! ### one argument, only looked at -/
structure CalB (X : Cx) (L : Lw) (f : Value) (r : List V → Hp → VK → Prop) (w : D → (D → Prop) → Prop) : Prop where
  opr : CallR X f r
  snd : ∀ (b : Beg) (F : Hp) (s : Sl) (σ : L2.St) (H : Hp) (v : V) (d : D) (Q : D → Prop) (k : VK), Rel X.K L b F s σ H → DpB X.K b F H v d → w d Q →
    (∀ F' c v H', Rel X.K L b F' s σ H' → Same F F' → Kp b H H' → Dt X.K F' v c → Q c → k v H') → r [v] H k
def wCalB (w : D → (D → Prop) → Prop) (wa : We) : We := fun s Q R => wa s (fun d => w d Q) R
variable {w1 : D → (D → Prop) → Prop}
theorem fe_bi1 (o : CalB X L (.builtin id) r w1) (hm : X.mg x = none) (hv : bootBuiltins x = some (.builtin id)) (ha : FB X L W e te we) (hg : Gl X x := by rfl) (hn : x ≠ "__name__" := by decide) (hdb : (x == ("__debug__" : Str)) = false := by decide)
    (he : starEach [e] X.env = (false, eval e X.env) :: starEach [] X.env := by rfl) : FE X L W (.Call (.Name x p) [e] [] pos) (tCB r (tCons te tNil)) (wCalB w1 we) := by
  refine ⟨pe_callB o.opr hg hm hv (pa_cons ha.pe pa_nil he) hn hdb he rfl, fun b F s σ H Q R k I h hx kk => ?_⟩
  refine ha.snd b F s σ H _ R _ I h hx fun F1 d v H1 I1 m1 k1 r1 q => ?_
  exact o.snd b F1 s σ H1 v d Q k I1 r1 q fun F2 c v H2 I2 m2 k2 r2 z => kk F2 c v H2 I2 (m1.trans m2) (k1.trans k2) r2 z
theorem fe_ty1 (o : CalB X L (.type T) r w1) (hm : X.mg x = none) (hv : bootBuiltins x = some (.type T)) (ha : FB X L W e te we) (hg : Gl X x := by rfl) (hn : x ≠ "__name__" := by decide) (hdb : (x == ("__debug__" : Str)) = false := by decide)
    (he : starEach [e] X.env = (false, eval e X.env) :: starEach [] X.env := by rfl) : FE X L W (.Call (.Name x p) [e] [] pos) (tCB r (tCons te tNil)) (wCalB w1 we) := by
  refine ⟨pe_callTy o.opr hg hm hv (pa_cons ha.pe pa_nil he) hn hdb he rfl, fun b F s σ H Q R k I h hx kk => ?_⟩
  refine ha.snd b F s σ H _ R _ I h hx fun F1 d v H1 I1 m1 k1 r1 q => ?_
  exact o.snd b F1 s σ H1 v d Q k I1 r1 q fun F2 c v H2 I2 m2 k2 r2 z => kk F2 c v H2 I2 (m1.trans m2) (k1.trans k2) r2 z
def dLen : D → (D → Prop) → Prop := fun d Q => match d with
  | .list ds => Q (.int ds.length)
  | .tuple ds => Q (.int ds.length)
  | .str z => z.length ≤ sizeLine ∧ Q (.int z.length)
  | _ => False
theorem cal_len : CalB X L (.builtin "len") (rLen X.K) dLen := by
  refine ⟨call_len, fun b F s σ H v d Q k I h q kk => ?_⟩
  have h' := h.at I.sub
  cases h' with
  | lst h1 h2 => exact ⟨_, _, rfl, .inl ⟨_, h1, (dps_len h2).symm⟩, kk F _ _ H I (Same.refl F) Kp.refl (.int _) q⟩
  | tup h1 h2 => exact ⟨_, _, rfl, .inr ⟨_, h1, (dps_len h2).symm⟩, kk F _ _ H I (Same.refl F) Kp.refl (.int _) q⟩
  | str z => exact ⟨_, _, rfl, ⟨q.1, rfl⟩, kk F _ _ H I (Same.refl F) Kp.refl (.int _) q.2⟩
  | _ => exact q.elim
/-! ### isinstance(x, T), T a built-in type -/
def tyD : D → String
  | .none => "NoneType" | .bool _ => "bool" | .int _ => "int" | .str _ => "str" | .list _ => "list" | .tuple _ => "tuple" | .dict _ => "dict"
def isIntD : D → Bool
  | .int _ => true | .bool _ => true | _ => false
def isBoolD : D → Bool
  | .bool _ => true | _ => false
def isStrD : D → Bool
  | .str _ => true | _ => false
def isTupD : D → Bool
  | .tuple _ => true | _ => false
def isLstD : D → Bool
  | .list _ => true | _ => false
def isDctD : D → Bool
  | .dict _ => true | _ => false
structure IsiD (T : String) (f : D → Bool) : Prop where
  ok : ∀ d, kitB (tyD d) T = some (f d)
def tyNames : List String := ["NoneType", "bool", "int", "str", "list", "tuple", "dict"]
theorem isi_by {T : String} {f : D → Bool} (g : String → Bool) (h1 : ∀ d, f d = g (tyD d)) (h2 : (tyNames.all fun n => kitB n T == some (g n)) = true) : IsiD T f := ⟨fun d => by
  rw [h1 d]
  have h : tyD d ∈ tyNames := by cases d <;> simp [tyD, tyNames]
  exact beq_iff_eq.mp (List.all_eq_true.mp h2 _ h)⟩
theorem isi_int : IsiD "int" isIntD := isi_by (fun n => n == "int" || n == "bool") (fun d => by cases d <;> rfl) (by decide +kernel)
theorem isi_bool : IsiD "bool" isBoolD := isi_by (fun n => n == "bool") (fun d => by cases d <;> rfl) (by decide +kernel)
theorem isi_str : IsiD "str" isStrD := isi_by (fun n => n == "str") (fun d => by cases d <;> rfl) (by decide +kernel)
theorem isi_tup : IsiD "tuple" isTupD := isi_by (fun n => n == "tuple") (fun d => by cases d <;> rfl) (by decide +kernel)
theorem isi_lst : IsiD "list" isLstD := isi_by (fun n => n == "list") (fun d => by cases d <;> rfl) (by decide +kernel)
theorem tyx_of {K : PySem.W.Frag} {H : Hp} {v : V} {d : D} (h : Dt K H v d) : TyX K H v (.type (tyD d)) := by
  cases h with
  | non => exact .base .non
  | bl b => exact .base (.bl b)
  | int i => exact .base (.int i)
  | str x => exact .base (.str x)
  | lst h1 h2 =>
    rcases h1 with (h1 | ⟨o, h1⟩) | ⟨o, its, n, h1, h3, _⟩
    · exact .base (.lst h1)
    · exact .base (.frz h1)
    · exact .kList h1 h3
  | tup h1 h2 =>
    rcases h1 with (h1 | ⟨o, h1⟩) | ⟨o, its, n, h1, h3, _⟩
    · exact .base (.tup h1)
    · exact .fTuple h1
    · exact .kTuple h1 h3
def wIsi (f : D → Bool) (wa : We) : We := fun s Q R => wa s (fun d => Q (.bool (f d))) R
theorem fe_isi {y : Str} {p2 : Pos} {f : D → Bool} (o : IsiD T f) (hm : X.mg "isinstance" = none) (hb : bootBuiltins "isinstance" = some (.builtin "isinstance")) (hmT : X.mg y = none) (hv : bootBuiltins y = some (.type T)) (ha : FB X L W e te we) (hg : Gl X "isinstance" := by rfl) (hgT : Gl X y := by rfl)
    (hn : y ≠ "__name__" := by decide) (hdb : (y == ("__debug__" : Str)) = false := by decide) (he : starEach (e :: [.Name y p2]) X.env = (false, eval e X.env) :: starEach [.Name y p2] X.env := by rfl) :
    FE X L W (.Call (.Name "isinstance" p) [e, .Name y p2] [] pos) (tCB (rIsi X.K) (tCons te (tCons (tC (.ty T)) tNil))) (wIsi f we) := by
  refine ⟨pe_callB call_isi hg hm hb (pa_cons ha.pe (pa_cons (pe_bltn hgT hmT hv rfl hn hdb) pa_nil) he) (by decide) (by decide) he rfl, fun b F s σ H Q R k I h hx kk => ?_⟩
  refine ha.snd b F s σ H _ R _ I h hx fun F1 d v H1 I1 m1 k1 r1 q => ?_
  exact ⟨v, .ty T, .type (tyD d), .type T, f d, rfl, .ty T, tyx_of (r1.at I1.sub), kit_ty (o.ok d), kk F1 _ _ H1 I1 m1 k1 (.bl _) q⟩
/-! ### xs.append(e) -/
def wApp (i : Nat) (wa : We) : Ws := fun s E => match s[i]? with
  | some (.ow ds) => wa s (fun d => ds.length < sizeLine ∧ E.nx (s.set i (.ow (ds ++ [d])))) E.ex
  | _ => False
theorem Rel.grow {K : PySem.W.Frag} {b : Beg} {F : Hp} {s : Sl} {σ : L2.St} {H : Hp} {i : Nat} {ds es : List D} {a : Addr} {us : List V} (I : Rel K L b F s σ H) (e : s[i]? = some (.ow ds)) (ea : σ[i]? = some (some (.ref a))) (r : DtAll K F us es) :
    Rel K L b F (s.set i (.ow es)) σ (upd H a (.lst us)) := by
  have hi : i < s.length := (List.getElem?_eq_some_iff.mp e).1
  have hsg : σ.getD i none = some (.ref a) := by rw [List.getD_eq_getElem?_getD, ea]; rfl
  obtain ⟨a', vs, e1, h0, hd, hf, hh, hs⟩ := I.slot i _ e
  rw [hsg] at e1
  cases e1
  have ne : ∀ c o, H c = some o → (∀ ys, o ≠ .lst ys) → c ≠ a := fun c o h n z => by subst z; rw [hh] at h; cases h; exact n vs rfl
  have kp : Kp b b.H0 (upd H a (.lst us)) := fun c o h n t => by
    have z : c ≠ a := fun z => by subst z; rw [h0] at h; cases h
    rw [upd_ne z]; exact I.keep c o h n t
  refine { sub := fun c o h => ?_, old := I.old, new := I.new, keep := kp, live := fun c h => ?_, drw := fun c h => ?_, tab := fun P h => ?_, ntb := I.ntb, len := by rw [List.length_set]; exact I.len, slot := fun j c h => ?_, apart := fun j k c n h1 h2 h3 => ?_ }
  · have z : c ≠ a := fun z => by subst z; rw [hf] at h; cases h
    rw [upd_ne z]; exact I.sub c o h
  · refine I.live c ?_
    by_cases z : c = a
    · subst z; rw [upd_same] at h; cases h
    · rw [upd_ne z] at h; exact h
  · obtain ⟨h1, ws, fs, h2, h3⟩ := I.drw c h
    have z : c ≠ a := fun z => hd (by rw [← z]; exact h)
    exact ⟨h1, ws, fs, by rw [upd_ne z]; exact h2, h3⟩
  · obtain ⟨ps, h1, h2⟩ := I.tab P h
    exact ⟨ps, by rw [upd_ne (ne P _ h1 fun ys z => by cases z)]; exact h1, h2⟩
  · by_cases q : j = i
    · subst q
      rw [List.getElem?_set, if_pos rfl, if_pos hi] at h
      cases h
      exact ⟨a, us, hsg, h0, hd, hf, upd_same, r⟩
    · rw [List.getElem?_set_ne (Ne.symm q)] at h
      have x := I.slot j c h
      cases c with
      | no => trivial
      | fz d => exact x
      | dr => exact x
      | lk fs =>
        obtain ⟨a2, ws, e2, g0, gd, gh, gs⟩ := x
        exact ⟨a2, ws, e2, g0, gd, by rw [upd_ne (fun z => g0 (by rw [z]; exact h0))]; exact gh, gs⟩
      | ow fs =>
        obtain ⟨a2, ws, e2, g0, gd, gf, gh, gs⟩ := x
        have z : a2 ≠ a := fun z => by
          subst z
          have hj : j < σ.length := by rw [I.len]; exact (List.getElem?_eq_some_iff.mp h).1
          have ej : σ[j]? = some (some (.ref a2)) := by
            rw [List.getD_eq_getElem?_getD, List.getElem?_eq_getElem hj] at e2
            rw [List.getElem?_eq_getElem hj]; exact congrArg some e2
          exact I.apart i j a2 (Ne.symm q) (by rw [e]; trivial) (by rw [h]; trivial) ea ej
        exact ⟨a2, ws, e2, g0, gd, gf, by rw [upd_ne z]; exact gh, gs⟩
  · have fix : ∀ {m : Nat}, isOw (s.set i (.ow es))[m]? → isOw s[m]? := fun {m} z => by
      by_cases q : m = i
      · subst q; rw [e]; trivial
      · rw [List.getElem?_set_ne (Ne.symm q)] at z; exact z
    exact I.apart j k c n (fix h1) (fix h2) h3
theorem slot_ref {K : PySem.W.Frag} {b : Beg} {F : Hp} {s : Sl} {σ : L2.St} {H : Hp} {i : Nat} {ds : List D} (I : Rel K L b F s σ H) (e : s[i]? = some (.ow ds)) : ∃ a vs, σ[i]? = some (some (.ref a)) ∧ b.H0 a = none ∧ b.dr ≠ some a ∧ F a = none ∧ H a = some (.lst vs) ∧ DtAll K F vs ds := by
  obtain ⟨a, vs, e1, h0, hd, hf, hh, hs⟩ := I.slot i _ e
  have hj : i < σ.length := by rw [I.len]; exact (List.getElem?_eq_some_iff.mp e).1
  refine ⟨a, vs, ?_, h0, hd, hf, hh, hs⟩
  rw [List.getD_eq_getElem?_getD, List.getElem?_eq_getElem hj] at e1
  rw [List.getElem?_eq_getElem hj]
  exact congrArg some e1
theorem fs_app (i : Nat) {x : Str} {p2 p3 : Pos} (ha : FE X L W e te we) (hN : X.N[i]? = some x := by rfl) (hv : Vis X.env.scope x := by first | exact Or.inl rfl | exact Or.inr (Or.inl rfl) | exact Or.inr (Or.inr rfl)) (hd : (x == ("__debug__" : Str)) = false := by decide)
    (hcd : (x == ("__classdict__" : Str)) = false := by decide) (hbase : attributeBase (.Name x p) "append" X.env (eval (.Name x p) X.env) = eval (.Name x p) X.env := by rfl)
    (hfew : ((backTo p3 (starEach [e] X.env)).all (fun x => !x.1) && (backToKw p3 (keywordEach [] X.env)).all (fun x => x.1.isSome) && decide ([e].length + ([] : List Keyword).length + (if ([] : List Keyword).isEmpty then 0 else 1) < 30)) = true := by rfl)
    (hline : (p2.endLine == p3.line) = true := by rfl) (hst : starEach [e] X.env = (false, eval e X.env) :: starEach [] X.env := by rfl)
    (hs : swapsWith (.Call (.Attribute (.Name x p) "append" p2) [e] [] p3) none pos.line X.env = pure false := by rfl) : FS X L W (.Expr (.Call (.Attribute (.Name x p) "append" p2) [e] [] p3) pos) (tDrop (tBM X.K "list" rAppend (tVar i) (tCons te tNil))) (wApp i we) := by
  refine ⟨ps_expr (pe_bm PySem.F.plainAttrs_list PySem.F.slot_list_append PySem.F.type_list_append mt_append (pv i hN hv hd hcd) (pa_cons ha.pe pa_nil hst) hbase hfew hline hst rfl) hs, fun b F s σ H E D' I h ok => ?_⟩
  unfold wApp at h
  split at h
  · rename_i ds q
    obtain ⟨a, vs, e1, h0, hd1, hf, hh, hs1⟩ := slot_ref I q
    refine ⟨_, e1, .inl ⟨rfl, _, .inl (.inl hh)⟩, ?_⟩
    refine ha.snd b F s σ H _ E.ex _ I h ok.exw fun F1 d v H1 I1 m1 k1 r1 z => ?_
    obtain ⟨a', vs', e1', _, _, _, hh', hs'⟩ := slot_ref I1 q
    rw [e1] at e1'
    cases e1'
    exact ⟨a, vs', v, rfl, rfl, hh', by rw [dps_len hs']; exact z.1, ok.nx F1 _ _ _ (I1.grow q e1 (dps_app hs' (dps_one r1))) m1 z.2⟩
  · exact h.elim
end
end FL

/-! FL8: the draws; a law's own def. -/
namespace FL
open PySem PySem.Spec PyProof.Rows L2
/-- draws that are a row of ints -/
def goodA (ds : List D) : Prop := ∃ ns : List Int, ds = ns.map .int
def lwA (tabs : List Addr) : Lw := ⟨tabs, goodA⟩
section
variable {X : Cx} {L : Lw} {W : WX}
theorem Rel.toDr {K : PySem.W.Frag} {b : Beg} {F : Hp} {s : Sl} {σ : L2.St} {H : Hp} {p : Addr} {vs : List V} {ds : List D} {i : Nat} (I : Rel K L b F s σ H) (hb : b.dr = none) (fr : Fresh b F s σ p) (e : H p = some (.lst vs)) (r : DtAll K F vs ds) (hg : L.good ds) :
    Rel K L ⟨b.H0, b.F0, some p⟩ F (s.set i .dr) (σ.set i (some (.ref p))) H where
  sub := I.sub
  old := I.old
  new := I.new
  keep := fun a o h _ t => I.keep a o h (by rw [hb]; simp) t
  live := I.live
  drw := fun a h => by
    cases (show some p = some a from h)
    exact ⟨fr.hf, vs, ds, e, r, hg⟩
  tab := I.tab
  ntb := I.ntb
  len := by rw [List.length_set, List.length_set, I.len]
  slot := fun j c q => by
    by_cases n : j = i
    · subst n
      rw [List.getElem?_set] at q
      split at q
      · split at q
        · cases q
          rename_i hj
          refine ⟨p, ?_, rfl⟩
          rw [List.getD_eq_getElem?_getD, List.getElem?_set, if_pos rfl, if_pos (by rw [I.len]; exact hj)]
          rfl
        · cases q
      · rename_i z; exact absurd rfl z
    · rw [List.getElem?_set_ne (Ne.symm n)] at q
      have hs : (σ.set i (some (.ref p))).getD j none = σ.getD j none := by
        rw [List.getD_eq_getElem?_getD, List.getElem?_set_ne (Ne.symm n), ← List.getD_eq_getElem?_getD]
      rw [hs]
      have x := I.slot j c q
      cases c with
      | no => trivial
      | fz d => exact x
      | dr =>
        obtain ⟨a, _, z⟩ := x
        rw [hb] at z; cases z
      | lk fs =>
        obtain ⟨a, ws, e1, h0, hd, hh, hs1⟩ := x
        exact ⟨a, ws, e1, h0, fun z => by cases (show some p = some a from z); exact h0 fr.h0, hh, hs1⟩
      | ow fs =>
        obtain ⟨a, ws, e1, h0, hd, hf, hh, hs1⟩ := x
        refine ⟨a, ws, e1, h0, fun z => ?_, hf, hh, hs1⟩
        cases (show some p = some a from z)
        have hj : j < σ.length := by rw [I.len]; exact (List.getElem?_eq_some_iff.mp q).1
        refine fr.hn j (by rw [q]; trivial) ?_
        rw [List.getD_eq_getElem?_getD, List.getElem?_eq_getElem hj] at e1
        rw [List.getElem?_eq_getElem hj]
        exact congrArg some e1
  apart := fun j k a n h1 h2 h3 h4 => by
    have nj : ∀ m, isOw (s.set i .dr)[m]? → m ≠ i := fun m z y => by
      subst y; rw [List.getElem?_set] at z
      split at z
      · split at z <;> exact z
      · rename_i y; exact absurd rfl y
    have n1 := nj j h1
    have n2 := nj k h2
    rw [List.getElem?_set_ne (Ne.symm n1)] at h1 h3
    rw [List.getElem?_set_ne (Ne.symm n2)] at h2 h4
    exact I.apart j k a n h1 h2 h3 h4
/-- the law's own promise -/
def spLaw (K : PySem.W.Frag) (L : Lw) : Sp := fun vs H Q E => ∃ (a : Addr) (ns : List Int), vs = [.ref a] ∧ SqL K H a (ns.map V.int) ∧ ns.length ≤ 63 ∧ (∀ z ∈ ns, Builtin.Int.intBits z ≤ 1048576) ∧ (∀ P ∈ L.tabs, TabG H P) ∧ ∀ H', Q (.bl true) H'
/-- all but the tables -/
def noTab (H : Hp) : Hp := fun a => match H a with
  | some (.tbl _) => none
  | o => o
theorem noTab_some {H : Hp} {a : Addr} {o : HO} (h : noTab H a = some o) : H a = some o ∧ ∀ ps, o ≠ .tbl ps := by
  unfold noTab at h
  split at h
  · cases h
  · rename_i n
    refine ⟨h, fun ps z => ?_⟩
    subst z
    exact n ps h
theorem noTab_of {H : Hp} {a : Addr} {o : HO} (h : H a = some o) (n : ∀ ps, o ≠ .tbl ps) : noTab H a = some o := by
  unfold noTab
  split
  · rename_i ps e
    rw [h] at e
    cases e
    exact absurd rfl (n ps)
  · exact h
theorem grd_law {K : PySem.W.Frag} {H : Hp} (ht : ∀ P ∈ L.tabs, TabG H P) : Grd K L ⟨H, noTab H, none⟩ (noTab H) H where
  sub := fun a o h => (noTab_some h).1
  old := Same.refl _
  new := fun _ _ h => .inl h
  keep := Kp.refl
  live := fun _ h => h
  drw := fun a h => by cases h
  tab := ht
  ntb := fun a ps h => (noTab_some h).2 ps rfl
theorem script_noTab {K : PySem.W.Frag} {H : Hp} {a : Addr} {xs : List V} (h : SqL K H a xs) : SqL K (noTab H) a xs := by
  rcases h with (h | ⟨o, h⟩) | h
  · exact .inl (.inl (noTab_of h fun ps z => by cases z))
  · exact .inl (.inr ⟨o, noTab_of h fun ps z => by cases z⟩)
  · exact .inr h
def asgVal : Stmt → Expr
  | .Assign _ a _ => a
  | _ => .Constant .none 0 ⟨0, 0, 0, 0⟩
theorem fn_law {P : Program} {w : World} {K : PySem.W.Frag} {mg : Str → Option Value} {base : Heap} {x qual : Str} {st : Stmt} {f : Addr} {fd : FuncData} {N : List Str} {k i : Nat} {par : Str} {s0 : Stmt} {rest : List Stmt} (Fn : Fun K x qual st f fd) (S : FnScope N [par] (defScope st)) (hst : defBody st = s0 :: rest)
    (hbody : ∀ (cdv : Value), fd.code = cdv → ∀ (A : Around) (outer : List Env) (s : Shared) (H : Hp) (E : XK), Room k (A.deeper (envOfC qual (defScope st) s.heap.objs.size f cdv)) →
      Takes (cxOf (L2.CX P w) P w K mg base N qual (defScope st) f cdv A outer s H E) (fun cls d _ H => E cls d H) →
      PassesOwn (model P w) (cxOf (L2.CX P w) P w K mg base N qual (defScope st) f cdv A outer s H E).A (cxOf (L2.CX P w) P w K mg base N qual (defScope st) f cdv A outer s H E).env (cxOf (L2.CX P w) P w K mg base N qual (defScope st) f cdv A outer s H E).xe →
      ∃ t wl t2 ws, PS (cxOf (L2.CX P w) P w K mg base N qual (defScope st) f cdv A outer s H E) s0 (tAsg t (gName i)) ∧ FN (cxOf (L2.CX P w) P w K mg base N qual (defScope st) f cdv A outer s H E) L (fun cls d _ H => E cls d H) (asgVal s0) t wl ∧
        FSs (cxOf (L2.CX P w) P w K mg base N qual (defScope st) f cdv A outer s H E) L (fun cls d _ H => E cls d H) rest t2 ws ∧
        ∀ ns : List Int, ns.length ≤ 63 → (∀ z ∈ ns, Builtin.Int.intBits z ≤ 1048576) → wl (startS N.length [.fz (.list (ns.map .int))]) (fun ds => L.good ds ∧ ws ((startS N.length [.fz (.list (ns.map .int))]).set i .dr) { nx := fun _ => False, rt := fun d => d = .bool true, ex := fun _ => False }) (fun _ => False)) :
    FnOk P w K mg base (L2.CX P w) (k + 1) f fd [par] (spLaw K L) := by
  refine okC Fn S (fun vs H Q E h => ?_) (fun cdv hcd A outer s H vs Q E hr h => ?_)
  · obtain ⟨a, ns, rfl, _⟩ := h
    rfl
  · obtain ⟨a, ns, rfl, hS, hl, hb, ht, q⟩ := h
    obtain ⟨t, wl, t2, ws, hp, hn, hd, hq⟩ := hbody cdv hcd A outer s H E hr (takes_of rfl rfl rfl rfl) (passes_of rfl)
    refine ⟨tSeq (tAsg t (gName i)) t2, by rw [hst]; exact pss_cons hp hd.pe, ?_⟩
    have g0 := grd_law (K := K) (H := H) ht
    have I0 : Rel K L ⟨H, noTab H, none⟩ (noTab H) (startS N.length [.fz (.list (ns.map .int))]) (L2.start N [.ref a]) H := rel_start g0 ⟨.lst (script_noTab hS) (dps_of_ints ns), trivial⟩
    refine hn.snd _ _ _ _ H _ _ _ I0 (hq ns hl hb) (fun cls F' H' I m z => z.elim) fun F1 ds p vs H1 I1 m1 k1 fr e1 r1 z => ?_
    refine hd.snd _ F1 _ _ H1 _ _ (I1.toDr rfl fr e1 r1 z.1) z.2 ⟨fun F' s' σ' H' I m z => z.elim, fun F' s' σ' H' v d I m r z => ?_, fun F' s' σ' H' I m z => z.elim, fun F' s' σ' H' I m z => z.elim, fun cls F' s' σ' H' I m z => z.elim, fun F' s' σ' H' p vs ds I m fr e r z => z.elim⟩
    subst z
    cases r
    exact q H'
/-! ### taking a draw: len(draws) == 0, draws.pop() -/
def spTake : Fs := fun cs q _ => match cs with
  | [.dr, .fz (.int n)] => 0 < n ∧ ∀ v : Int, 0 ≤ v → v < n → q (.int v)
  | _ => False
theorem take_inv {cs : List Cel} {q : D → Prop} {r : Value → Prop} (h : spTake cs q r) : ∃ n : Int, cs = [.dr, .fz (.int n)] ∧ 0 < n ∧ ∀ v : Int, 0 ≤ v → v < n → q (.int v) := by
  unfold spTake at h
  split at h
  · exact ⟨_, rfl, h⟩
  · exact h.elim
theorem fn_take {P : Program} {w : World} {K : PySem.W.Frag} {mg : Str → Option Value} {base : Heap} {x qual : Str} {st : Stmt} {f : Addr} {fd : FuncData} {tabs : List Addr} (Fn : Fun K x qual st f fd) (S : FnScope ["draws", "bound"] ["draws", "bound"] (defScope st)) (ml : mg "len" = none) (mi : mg "int" = none)
    (hb : ∀ (X : Cx), X.mg = mg → X.env.scope = defScope st → X.N = (["draws", "bound"] : List Str) → PSs X (defBody st) (tSeq (tIfS (tTest (tOp rEq (tCB (rLen X.K) (tCons (tVar 0) tNil)) (tC (.int 0)))) (tRet (tC (.int 0))) tNext)
      (tRet (tOp (rI (fun _ j => 0 < j) fun i j => .int (i % j)) (tCB rInt1 (tCons (tBM0 X.K "list" rPop (tVar 0)) tNil)) (tVar 1))))) :
    FnOk P w K mg base (L2.CX P w) 1 f fd ["draws", "bound"] (Spf K (lwA tabs) spTake) := by
  refine Fn.okX S (fun vs H Q E h => ?_) (fun cdv A outer s H vs Q E hr h => ?_)
  · obtain ⟨b, F, cs, q, r, g, ha, hw, _⟩ := h
    obtain ⟨n, rfl, _⟩ := take_inv hw
    exact ha.len
  · obtain ⟨b, F, cs, q, r, g, ha, hw, h1, h2⟩ := h
    obtain ⟨n, rfl, hn, hq⟩ := take_inv hw
    refine ⟨_, hb _ rfl rfl rfl, ?_⟩
    match vs, ha with
    | [x, y], ha =>
      obtain ⟨⟨a, rfl, hdr⟩, hy, _⟩ := ha
      cases (show Dt K F y (.int n) from hy)
      obtain ⟨hf, us, ds, hh, hs, ns, rfl⟩ := g.drw a hdr
      rw [dps_ints hs] at hh
      have fin : ∀ (H' : Hp) (v : Int), Grd K (lwA tabs) b F H' → 0 ≤ v → v < n → Q (.int v) H' := fun H' v g' v0 v1 => h1 F (.int v) (.int v) H' g' (Same.refl F) (.int v) (hq v v0 v1)
      refine ⟨.ref a, rfl, _, _, rfl, .inl ⟨_, .inl (.inl hh), rfl⟩, rfl, _, rfl, ite2 (fun e => ?_) (fun e => ?_)⟩
      · exact fin H 0 g (by omega) (by omega)
      · have hne : ns ≠ [] := fun z => by
          subst z
          exact e (decide_eq_true rfl)
        have hlast : (ns.map V.int)[(ns.map V.int).length - 1]? = some (.int (ns.getLast hne)) := by
          rw [List.length_map, List.getElem?_map, ← List.getLast?_eq_getElem?, List.getLast?_eq_some_getLast hne]
          rfl
        refine ⟨.ref a, rfl, .inl ⟨rfl, _, .inl (.inl hh)⟩, a, _, _, rfl, rfl, hh, hlast, .inl ⟨_, rfl, .int n, rfl, _, n, rfl, rfl, hn, fin _ _ ?_ (Int.emod_nonneg _ (by omega)) (Int.emod_lt_of_pos _ hn)⟩⟩
        have nf : ∀ c o, F c = some o → c ≠ a := fun c o h z => by subst z; rw [hf] at h; cases h
        exact {
          sub := fun c o h => by rw [upd_ne (nf c o h)]; exact g.sub c o h
          old := g.old
          new := g.new
          keep := fun c o h d t => by
            have z : c ≠ a := fun z => by subst z; exact d hdr
            rw [upd_ne z]; exact g.keep c o h d t
          live := fun c h => g.live c (by
            by_cases z : c = a
            · subst z; rw [upd_same] at h; cases h
            · rw [upd_ne z] at h; exact h)
          drw := fun c h => by
            rw [hdr] at h
            cases h
            exact ⟨hf, _, ns.dropLast.map .int, upd_same, by rw [← List.map_dropLast]; exact dps_of_ints _, ns.dropLast, rfl⟩
          tab := fun P h => by
            obtain ⟨ps, h3, h4⟩ := g.tab P h
            have z : P ≠ a := fun z => by subst z; rw [hh] at h3; cases h3
            exact ⟨ps, by rw [upd_ne z]; exact h3, h4⟩
          ntb := g.ntb }
end
end FL

/-! FL9: list(..), tuple(..), list(reversed(..)). -/
namespace FL
open PySem PySem.Spec PyProof.Rows L2
section
variable {prog : Program} {w : World} {A : Around} {E : Value → Shared → Prop} {s : Shared}
/-- list(r), r a reversed list's iterator that has not moved -/
theorem list_of_rev {it l : Addr} {items : Array Value} {Q : Value → Shared → Prop} (hh : A.handled = none) (hit : s.heap.IsRevIter it l ((items.size : Int) - 1)) (hl : s.heap.IsList l items) (hne : l ≠ it) (hn : items.size ≤ sizeLine)
    (hQ : ∀ (h' : Heap) (tk : Nat) (acc : Array Value) (c : Nat), (∀ b o, b ≠ it → s.heap.get? b = some o → h'.get? b = some o) → h'.get? s.heap.objs.size = some { cls := .type "list", dict := none, data := .seq acc c, slots := #[] } →
      ItemsOf (fun i v => items[items.size - 1 - i]? = some v) acc items.size → Q (.ref s.heap.objs.size) { s with heap := h', toks := tk }) : wpAny (model prog w) A (call (.type "list") [.ref it]) Q E s := by
  have lt_it : it < s.heap.objs.size := let ⟨_, ho, _⟩ := hit; Heap.lt_size ho
  have lt_l : l < s.heap.objs.size := let ⟨_, ho, _⟩ := hl; Heap.lt_size ho
  have hSi : s.heap.objs.size ≠ it := Nat.ne_of_gt lt_it
  have hSl : s.heap.objs.size ≠ l := Nat.ne_of_gt lt_l
  have hSf : s.heap.objs.size ∉ [it, l] := by
    simp only [List.mem_cons, List.not_mem_nil, or_false, not_or]
    exact ⟨hSi, hSl⟩
  refine callType_codes (Q₁ := fun obj s₁ => obj = .ref s.heap.objs.size ∧ s₁ = { s with heap := s.heap.push { cls := .type "list", data := .seq #[] } }) PySem.F.called_list (PySem.F.typeCall_list_1 _) PySem.F.entry_list_init (code_list_new _ ⟨rfl, rfl⟩) ?_
  rintro obj s₁ ⟨rfl, rfl⟩
  have e0 : (s.heap.push { cls := .type "list", data := .seq #[] }).get? s.heap.objs.size = some { cls := .type "list", data := .seq #[] } := Heap.get?_push_size _ rfl
  refine ⟨⟨_, e0, rfl⟩, PySem.F.args_list_init_2 _ _, ?_⟩
  show wpAny _ A.in1.in1 (do let old ← Builtin.List.listItems (.ref s.heap.objs.size); Builtin.List.listUpdate (.ref s.heap.objs.size) (fun _ => #[]); letGo old.toList.reverse; Builtin.List.listExtendWith (.ref s.heap.objs.size) (.ref it) .none) _ _ _
  refine wpAny_bind ?_
  unfold Builtin.List.listItems
  refine wpAny_bind (wpAny_seqItems e0 rfl (wpAny_pure ?_))
  show wpAny _ A.in1.in1 (updateSeq s.heap.objs.size (fun _ => #[]) >>= fun _ => letGo (#[] : Array Value).toList.reverse >>= fun _ => Builtin.List.listExtendWith (.ref s.heap.objs.size) (.ref it) .none) _ _ _
  refine wpAny_bind (wpAny_updateSeq e0 rfl ?_)
  have e1 := Heap.get?_update_self (Obj.mapSeq (fun _ => (#[] : Array Value))) e0 rfl
  have up : ∀ b o, s.heap.get? b = some o → ((s.heap.push { cls := .type "list", data := .seq #[] }).update s.heap.objs.size (Obj.mapSeq (fun _ => (#[] : Array Value)))).get? b = some o := fun b o e =>
    (Heap.get?_update_other _ _ (Nat.ne_of_gt (Heap.lt_size e))).trans (Heap.get?_push_of_some _ e)
  refine wpAny_bind (wpAny_letGo ?_)
  have it1 := hit.at fun o e => up it o e
  have l1 : ((s.heap.push { cls := .type "list", data := .seq #[] }).update s.heap.objs.size (Obj.mapSeq (fun _ => (#[] : Array Value)))).IsList l items := by
    obtain ⟨o, ho, r⟩ := hl
    exact ⟨o, up l o ho, r⟩
  have ty : ∀ {h : Heap} {tk : Nat}, h.IsRevIter it l ((items.size : Int) - 1) → ({ s with heap := h, toks := tk } : Shared).TypeIs (.ref it) "list_reverseiterator" := fun {h tk} x => Heap.IsRevIter.typeIs (s := { s with heap := h, toks := tk }) x
  have ns : Builtin.List.listSameRef (.ref s.heap.objs.size) (.ref it) = false := by simp [Builtin.List.listSameRef, hSi]
  unfold Builtin.List.listExtendWith
  refine wpAny_bind (wpAny_typeOf (ty (tk := s.toks) it1) ?_)
  rw [if_neg (show ¬ _ by rw [ns]; decide)]
  refine wpAny_bind (wpAny_pyIter_revIter (s := { s with heap := _ }) it1 ?_)
  refine wpAny_bind (wpAny_holding ?_)
  unfold Builtin.List.listLengthHint
  refine wpAny_bind (wpAny_specialOf (ty (tk := s.toks) it1) RT.nolen_lri ?_)
  show wpAny _ A.in1.in1 (specialOf (Value.ref it) (Str.ofString "__length_hint__") >>= _) _ _ _
  refine wpAny_bind (wpAny_specialOf (ty (tk := s.toks) it1) RT.hint_lri ?_)
  generalize hid : ("list_reverseiterator.__length_hint__" : String) = id0
  wp_delta
  rw [show splitId id0 = some ("list_reverseiterator", "__length_hint__") from by subst hid; decide +kernel]
  subst hid
  refine wpAny_bind (wpAny_isInstance (b := true) (ty (tk := s.toks) it1) (by rw [isSubtype_type]; kernel_rfl) ?_)
  refine wpAny_pure ?_
  rw [if_neg (by decide)]
  have W := (Walks.listRev (prog := prog) (w := w) (A := A.in1.in1) hh it l hne items).toS
  have ez : ((items.size : Nat) : Int) - 1 - ((0 : Nat) : Int) = (items.size : Int) - 1 := by omega
  refine wpAny_pure ⟨plainId_quiet PySem.F.plain_extend_loop _, codeAny_extend_loopS W hn _ hSf _ items.size 0 _ _ _ rfl (Nat.zero_le _) ⟨Nat.zero_le _, by rw [ez]; exact it1, l1⟩ e1 (ItemsOf.nil _) ?_⟩
  intro s' acc c hm hS hacc
  refine ⟨rfl, ?_⟩
  rw [Moved.eq_with hm]
  refine hQ s'.heap s'.toks acc c (fun b o hb e => hm.heap b o (fun hmem => ?_) (up b o e)) hS hacc
  rcases List.mem_cons.mp hmem with z | z
  · exact absurd (Heap.lt_size e) (by rw [z]; exact Nat.lt_irrefl _)
  · exact hb (List.mem_singleton.mp z)
end
section
variable {X : Cx} {L : Lw} {W : WX} {pos p : Pos} {e : Expr} {te : TE} {we : We}
def tLstRev (K : PySem.W.Frag) (te : TE) : TE := fun σ H Q => te σ H fun v H1 => ∃ (a : Addr) (xs : List V), v = .ref a ∧ SqL K H1 a xs ∧ ∀ q, H1 q = none → Q (.ref q) (upd H1 q (.lst xs.reverse))
theorem pe_lstRev {p2 pos2 : Pos} (hc : X.calm = true) (hg : Gl X "list") (hm : X.mg "list" = none) (hg2 : Gl X "reversed") (hm2 : X.mg "reversed" = none) (he : PE X e te)
    (hs : starEach [e] X.env = (false, eval e X.env) :: starEach [] X.env)
    (hs2 : starEach [.Call (.Name "reversed" p2) [e] [] pos2] X.env = (false, eval (.Call (.Name "reversed" p2) [e] [] pos2) X.env) :: starEach [] X.env) :
    PE X (.Call (.Name "list" p) [.Call (.Name "reversed" p2) [e] [] pos2] [] pos) (tLstRev X.K te) := by
  refine ⟨fun pins s σ H Q I h => ?_⟩
  refine Call_ (ld_blt I hg hm boot_list (PyProof.Rows.callWith_type1 (args_cons (Call_ (ld_blt I hg2 hm2 PyProof.Rows.boot_reversed (PyProof.Rows.callWith_type1 (args_cons (thn (he.run pins s σ H _ I h) fun u s1 ⟨v, H1, I1, r1, q1⟩ => args_nil ?_) hs) hs rfl))) hs2) hs2 rfl))
  obtain ⟨a, xs, ev, hq, q⟩ := q1
  subst ev
  obtain rfl : u = Value.ref a := r1
  obtain ⟨its, rv, p', hz⟩ := I1.list hq
  refine call_reversed_list p'.isList (args_nil ?_)
  have k0 : ∀ b o, s1.heap.get? b = some o → (s1.heap.push (revObj a ((its.toArray.size : Int) - 1))).get? b = some o := fun b o e => Heap.get?_push_of_some _ e
  have I2 : L2.Inv X pins σ H1 { s1 with heap := s1.heap.push (revObj a ((its.toArray.size : Int) - 1)) } := I1.kept (t' := s1.toks) k0
  obtain ⟨f0, f1, f2, f3, f4, f5⟩ := I1.fpOk (H' := H1) (b := s1.heap.objs.size) (Nat.le_refl _) (I1.hok.fresh (Nat.le_refl _))
  have hl := p'.isList
  have hne : a ≠ s1.heap.objs.size := let ⟨_, ho, _⟩ := hl; Nat.ne_of_lt (Heap.lt_size ho)
  have hn : its.toArray.size ≤ sizeLine := by rw [List.size_toArray, ← rv.length]; exact hz
  have hne2 : s1.heap.objs.size ≠ s1.heap.objs.size + 1 := Nat.ne_of_lt (Nat.lt_succ_self _)
  refine list_of_rev (s := { s1 with heap := s1.heap.push (revObj a ((its.toArray.size : Int) - 1)) }) (I1.ok.hd hc) ⟨_, Heap.get?_push_size _ rfl, rfl, rfl⟩ (hl.push _) hne hn fun h' tk acc c hk hS hi => ?_
  have sz : (s1.heap.push (revObj a ((its.toArray.size : Int) - 1))).objs.size = s1.heap.objs.size + 1 := Heap.size_push ..
  rw [sz] at hS ⊢
  have up : ∀ b o, s1.heap.get? b = some o → h'.get? b = some o := fun b o e => hk b o (Nat.ne_of_lt (Heap.lt_size e)) (k0 b o e)
  refine ⟨.ref (s1.heap.objs.size + 1), upd H1 (s1.heap.objs.size + 1) (.lst xs.reverse), I1.laid (t' := tk) up (Nat.le_succ _) (show ObjOk X.prog X.w _ _ _ (.lst xs.reverse) from ⟨by rw [List.length_reverse]; exact hz, acc.toList, c, RT.vals_rev rv hi, ?_⟩), rfl, q _ (I1.hok.fresh (Nat.le_succ _))⟩
  rw [Array.toArray_toList]
  exact hS
theorem dps_rev {K : PySem.W.Frag} {H : Hp} : ∀ {vs : List V} {ds : List D}, DtAll K H vs ds → DtAll K H vs.reverse ds.reverse
  | _, [], h => by cases h; exact .nil
  | _, _ :: _, h => by
    cases h with
    | cons h1 h2 => rw [List.reverse_cons, List.reverse_cons]; exact dps_app (dps_rev h2) (dps_one h1)
def wLRev (wa : We) : Wl := fun s Q R => wa s (fun d => match d with
  | .list ds => Q ds.reverse
  | _ => False) R
theorem fn_listRev {p2 pos2 : Pos} (hc : X.calm = true) (hm : X.mg "list" = none) (hm2 : X.mg "reversed" = none) (he : FB X L W e te we) (hg : Gl X "list" := by rfl) (hg2 : Gl X "reversed" := by rfl)
    (hs : starEach [e] X.env = (false, eval e X.env) :: starEach [] X.env := by rfl)
    (hs2 : starEach [.Call (.Name "reversed" p2) [e] [] pos2] X.env = (false, eval (.Call (.Name "reversed" p2) [e] [] pos2) X.env) :: starEach [] X.env := by rfl) :
    FN X L W (.Call (.Name "list" p) [.Call (.Name "reversed" p2) [e] [] pos2] [] pos) (tLstRev X.K te) (wLRev we) := by
  refine ⟨pe_lstRev hc hg hm hg2 hm2 he.pe hs hs2, fun b F s σ H Q R k I h hx kk => ?_⟩
  refine he.snd b F s σ H _ R _ I h hx fun F1 d v H1 I1 m1 k1 r1 q => ?_
  split at q
  · have lay : ∀ {vs : List V} {ds : List D}, DtAll X.K F1 vs ds → Q ds.reverse → ∀ z, H1 z = none → k (.ref z) (upd H1 z (.lst vs.reverse)) := fun {vs ds} r q z hz =>
      kk F1 ds.reverse z vs.reverse _ (I1.lay hz) m1 (k1.trans (Kp.of (same_upd hz))) ⟨I1.live z hz, I1.dr_some hz, I1.f_none hz, fun i y => I1.ow_some hz i y⟩ upd_same (dps_rev r) q
    rcases r1 with r1 | ⟨a, vs, ds, rfl, e2, e3, e4, e5⟩
    · cases r1 with
      | lst h1 h2 => exact ⟨_, _, rfl, I1.sub.seq h1, lay h2 q⟩
    · cases e2
      exact ⟨_, _, rfl, .inl (.inl e4), lay e5 q⟩
  · exact q.elim
/-! ### list(x), tuple(x) of a list or a tuple -/
theorem fresh_at {b : Beg} {F : Hp} {s : Sl} {σ : L2.St} {H : Hp} {K : PySem.W.Frag} (I : Rel K L b F s σ H) {z : Addr} (hz : H z = none) : Fresh b F s σ z := ⟨I.live z hz, I.dr_some hz, I.f_none hz, fun i y => I.ow_some hz i y⟩
abbrev rListA (K : PySem.W.Frag) : List V → Hp → VK → Prop := fun xs H Q => ∃ p ys, xs = [.ref p] ∧ (SqL K H p ys ∨ SqT K H p ys) ∧ ∀ l, H l = none → Q (.ref l) (upd H l (.lst ys))
def wListA (wa : We) : Wl := fun s Q R => wa s (fun d => match d with
  | .list ds => Q ds
  | .tuple ds => Q ds
  | _ => False) R
theorem fn_list (hm : X.mg "list" = none) (he : FB X L W e te we) (hg : Gl X "list" := by rfl) (hs : starEach [e] X.env = (false, eval e X.env) :: starEach [] X.env := by rfl) : FN X L W (.Call (.Name "list" p) [e] [] pos) (tCB (rListA X.K) (tCons te tNil)) (wListA we) := by
  refine ⟨pe_callTy call_list_of hg hm boot_list (pa_cons he.pe pa_nil hs) (by decide) (by decide) hs rfl, fun b F s σ H Q R k I h hx kk => ?_⟩
  refine he.snd b F s σ H _ R _ I h hx fun F1 d v H1 I1 m1 k1 r1 q => ?_
  have lay : ∀ {vs : List V} {ds : List D}, DtAll X.K F1 vs ds → Q ds → ∀ z, H1 z = none → k (.ref z) (upd H1 z (.lst vs)) := fun {vs ds} r q z hz =>
    kk F1 ds z vs _ (I1.lay hz) m1 (k1.trans (Kp.of (same_upd hz))) (fresh_at I1 hz) upd_same r q
  rcases r1 with r1 | ⟨a, vs, ds, rfl, rfl, e3, e4, e5⟩
  · cases r1 with
    | lst h1 h2 => exact ⟨_, _, rfl, .inl (I1.sub.seq h1), lay h2 q⟩
    | tup h1 h2 => exact ⟨_, _, rfl, .inr (same_sqT I1.sub h1), lay h2 q⟩
    | _ => exact q.elim
  · exact ⟨_, _, rfl, .inl (.inl (.inl e4)), lay e5 q⟩
abbrev rTupA (K : PySem.W.Frag) : List V → Hp → VK → Prop := fun xs H Q => ∃ p ys, xs = [.ref p] ∧ ((SqL K H p ys ∧ ∀ l, H l = none → Q (.ref l) (upd H l (.tup ys))) ∨ (SqT K H p ys ∧ Q (.ref p) H))
def dTupA : D → (D → Prop) → Prop := fun d Q => match d with
  | .list ds => Q (.tuple ds)
  | .tuple ds => Q (.tuple ds)
  | _ => False
theorem cal_tuple : CalB X L (.type "tuple") (rTupA X.K) dTupA := by
  refine ⟨call_tuple_of, fun b F s σ H v d Q k I h q kk => ?_⟩
  have lay : ∀ {vs : List V} {ds : List D}, DtAll X.K F vs ds → Q (.tuple ds) → ∀ z, H z = none → k (.ref z) (upd H z (.tup vs)) := fun {vs ds} r q z hz =>
    kk _ _ _ _ (I.new1 hz (fun ps y => by cases y)) (same_upd (I.f_none hz)) (Kp.of (same_upd hz)) (.tup (.inl (.inl upd_same)) (dps_mono (same_upd (I.f_none hz)) r)) q
  rcases h with h | ⟨a, vs, ds, rfl, rfl, e3, e4, e5⟩
  · cases h with
    | lst h1 h2 => exact ⟨_, _, rfl, .inl ⟨I.sub.seq h1, lay h2 q⟩⟩
    | tup h1 h2 => exact ⟨_, _, rfl, .inr ⟨same_sqT I.sub h1, kk F _ _ H I (Same.refl F) Kp.refl (.tup h1 h2) q⟩⟩
    | _ => exact q.elim
  · exact ⟨_, _, rfl, .inl ⟨.inl (.inl e4), lay e5 q⟩⟩
end
section
theorem cx_none {P : Program} : ∀ (w : World) (H : Hp) (s : Shared) (e : Value) (s' : Shared), L2.CX P w [] H s (fun _ _ _ => False) e s' → False := fun _ _ _ _ _ h => by
  obtain ⟨_, _, _, _, _, _, _, _, _, _, _, _, z⟩ := h
  exact z
theorem fnok_false {P : Program} {w : World} {K : PySem.W.Frag} {mg : Str → Option Value} {base : Heap} {k : Nat} {f : Addr} {fd : FuncData} {ps : List Str} {L : Lw} : FnOk P w K mg base (L2.CX P w) k f fd ps (Spf K L fun _ _ _ => False) :=
  ⟨fun vs H Q E ⟨_, _, _, _, _, _, _, z, _⟩ => z.elim, fun A outer s H args us vs Q E _ _ _ _ ⟨_, _, _, _, _, _, _, z, _⟩ => z.elim⟩
end
/-! ### the readings unfold where the slots are known -/
section
variable {c : Cel} {s : Sl} {E : En} {Q : D → Prop} {R : Value → Prop}
theorem u_seq {w w' : Ws} : wSeq w w' (c :: s) E = w (c :: s) { E with nx := fun s' => w' s' E } := rfl
theorem u_next : wNext (c :: s) E = E.nx (c :: s) := rfl
theorem u_drop {wa : We} : wDrop wa (c :: s) E = wa (c :: s) (fun _ => E.nx (c :: s)) E.ex := rfl
theorem u_ret {wa : We} : wRet wa (c :: s) E = wa (c :: s) E.rt E.ex := rfl
theorem u_retO {wl : Wl} : wRetO wl (c :: s) E = wl (c :: s) E.rn E.ex := rfl
theorem u_ifS {v : Wt} {w w' : Ws} : wIfS v w w' (c :: s) E = v (c :: s) (fun b => cond b (w (c :: s) E) (w' (c :: s) E)) E.ex := rfl
theorem u_asg {wa : We} {g : Wg} : wAsg wa g (c :: s) E = wa (c :: s) (fun d => g d (c :: s) E.nx) E.ex := rfl
theorem u_setO {i : Nat} {wl : Wl} : wSetO i wl (c :: s) E = wl (c :: s) (fun ds => E.nx ((c :: s).set i (.ow ds))) E.ex := rfl
theorem u_par {i j : Nat} {wl : Wl} : wPar i j wl (c :: s) E = wl (c :: s) (fun ds => match ds with | [d, e] => E.nx (((c :: s).set i (.fz d)).set j (.fz e)) | _ => False) E.ex := rfl
theorem u_par3 {i j l : Nat} {wl : Wl} : wPar3 i j l wl (c :: s) E = wl (c :: s) (fun ds => match ds with | [d, e, f] => E.nx ((((c :: s).set i (.fz d)).set j (.fz e)).set l (.fz f)) | _ => False) E.ex := rfl
theorem u_aug {i : Nat} {C : Int → Int → Prop} {f : Int → Int → Int} {wa : We} : wAug i C f wa (c :: s) E = (match (c :: s)[i]? with | some (.fz (.int n)) => wa (c :: s) (fun d => match d with | .int m => C n m ∧ E.nx ((c :: s).set i (.fz (.int (f n m)))) | _ => False) E.ex | _ => False) := rfl
theorem u_for {wi : Wl} {g : Wg} {w : Ws} : wFor wi g w (c :: s) E = wi (c :: s) (fun ds => wForL g w ds (c :: s) E) E.ex := rfl
theorem u_app {i : Nat} {wa : We} : wApp i wa (c :: s) E = (match (c :: s)[i]? with | some (.ow ds) => wa (c :: s) (fun d => ds.length < sizeLine ∧ E.nx ((c :: s).set i (.ow (ds ++ [d])))) E.ex | _ => False) := rfl
theorem u_fix {i : Nat} : Sl.fix (c :: s) i = (match (c :: s)[i]? with | some (.ow ds) => (c :: s).set i (.fz (.list ds)) | _ => c :: s) := rfl
theorem u_gname {i : Nat} {d : D} {Q : Sl → Prop} : wgName i d (c :: s) Q = Q ((c :: s).set i (.fz d)) := rfl
end
end FL

/-! FL10: plain facts that the readings ask for. -/
namespace FL
open PySem PySem.Spec PyProof.Rows L2
theorem rng_get {lo : Int} {n i : Nat} {d : D} (h : (rngD lo n)[i]? = some d) : d = .int (lo + i) ∧ i < n := by
  unfold rngD at h
  rw [List.getElem?_map] at h
  cases e : (List.range n)[i]? with
  | none => rw [e] at h; cases h
  | some j =>
    rw [e] at h; cases h
    have := List.getElem?_eq_some_iff.mp e
    obtain ⟨h1, h2⟩ := this
    rw [List.length_range] at h1
    rw [List.getElem_range] at h2
    subst h2
    exact ⟨rfl, h1⟩
theorem rng_get0 {n i : Nat} {d : D} (h : (rngD 0 n)[i]? = some d) : d = .int i ∧ i < n := by
  have := rng_get h
  rw [Int.zero_add] at this
  exact this
theorem rng_len {lo : Int} {n : Nat} : (rngD lo n).length = n := by simp [rngD]
theorem snoc_int {ms : List Int} {n : Int} : ms.map PyData.int ++ [.int n] = (ms ++ [n]).map .int := by simp
theorem ix_nat {ds : List D} {j : Nat} {Q : D → Prop} {d : D} (hj : ds[j]? = some d) (hq : Q d) : ∃ d, atI ds (j : Int) = some d ∧ Q d := ⟨d, atI_nat hj, hq⟩
theorem ix_int {ds : List D} {i : Int} {Q : D → Prop} {d : D} (h0 : 0 ≤ i) (hj : ds[i.toNat]? = some d) (hq : Q d) : ∃ d, atI ds i = some d ∧ Q d :=
  ⟨d, by have := atI_nat hj; rwa [Int.toNat_of_nonneg h0] at this, hq⟩
theorem ix_last {ds : List D} {Q : D → Prop} {d : D} (hj : ds.getLast? = some d) (hq : Q d) : ∃ d, atI ds (-1) = some d ∧ Q d := by
  obtain ⟨ys, rfl⟩ := List.getLast?_eq_some_iff.mp hj
  exact ⟨d, atI_last _ _, hq⟩
theorem ix_two {a b v : Int} {Q : D → Prop} (h0 : 0 ≤ v) (h1 : v < 2) (h : ∀ c : Int, c = a ∨ c = b → Q (.int c)) : ∃ d, atI [PyData.int a, .int b] v = some d ∧ Q d := by
  rcases (show v = 0 ∨ v = 1 by omega) with rfl | rfl
  · exact ⟨_, rfl, h a (.inl rfl)⟩
  · exact ⟨_, rfl, h b (.inr rfl)⟩
theorem rg_len {n : Nat} (h : n ≤ sizeLine) : RgI (n : Int) := by
  have : sizeLine ≤ 2 ^ 61 := by decide
  exact ⟨by omega, by omega⟩
theorem cond_dec {p : Prop} [Decidable p] {A B : Prop} : cond (decide p) A B = ((p → A) ∧ (¬ p → B)) := by
  by_cases h : p <;> simp [h]
theorem cond_not {b : Bool} {A B : Prop} : cond (!b) A B = cond b B A := by cases b <;> rfl
theorem l_map1 {α β : Type} {f : α → β} {a : α} {l : List α} : List.map f (a :: l) = f a :: List.map f l := rfl
theorem l_map0 {α β : Type} {f : α → β} : List.map f [] = [] := rfl
theorem b_nt : (!true) = false := rfl
theorem b_nf : (!false) = true := rfl
theorem c_t {A B : Prop} : cond true A B = A := rfl
theorem c_f {A B : Prop} : cond false A B = B := rfl
theorem cond_of {b : Bool} {A B : Prop} (h1 : b = true → A) (h2 : b = false → B) : cond b A B := by
  cases b with
  | true => exact h1 rfl
  | false => exact h2 rfl
theorem cond_t {b : Bool} {A B : Prop} (e : b = true) (h : A) : cond b A B := by subst e; exact h
theorem cond_f {b : Bool} {A B : Prop} (e : b = false) (h : B) : cond b A B := by subst e; exact h
theorem mem_rng {n : Nat} {d : D} (h : d ∈ rngD 0 n) : ∃ k : Nat, k < n ∧ d = .int (k : Int) := by
  obtain ⟨i, hi⟩ := List.getElem?_of_mem h
  obtain ⟨e, hk⟩ := rng_get0 hi
  exact ⟨i, hk, e⟩
theorem ix0 {x : D} {xs : List D} {Q : D → Prop} : (∃ d, atI (x :: xs) 0 = some d ∧ Q d) = Q x := propext ⟨fun ⟨d, e, q⟩ => by
  rw [show atI (x :: xs) 0 = some x from atI_nat (j := 0) rfl] at e; cases e; exact q, fun q => ⟨x, atI_nat (j := 0) rfl, q⟩⟩
theorem ix1 {x y : D} {xs : List D} {Q : D → Prop} : (∃ d, atI (x :: y :: xs) 1 = some d ∧ Q d) = Q y := propext ⟨fun ⟨d, e, q⟩ => by
  rw [show atI (x :: y :: xs) 1 = some y from atI_nat (j := 1) rfl] at e; cases e; exact q, fun q => ⟨y, atI_nat (j := 1) rfl, q⟩⟩
theorem ix2 {x y z : D} {xs : List D} {Q : D → Prop} : (∃ d, atI (x :: y :: z :: xs) 2 = some d ∧ Q d) = Q z := propext ⟨fun ⟨d, e, q⟩ => by
  rw [show atI (x :: y :: z :: xs) 2 = some z from atI_nat (j := 2) rfl] at e; cases e; exact q, fun q => ⟨z, atI_nat (j := 2) rfl, q⟩⟩
theorem ix3 {x y z u : D} {xs : List D} {Q : D → Prop} : (∃ d, atI (x :: y :: z :: u :: xs) 3 = some d ∧ Q d) = Q u := propext ⟨fun ⟨d, e, q⟩ => by
  rw [show atI (x :: y :: z :: u :: xs) 3 = some u from atI_nat (j := 3) rfl] at e; cases e; exact q, fun q => ⟨u, atI_nat (j := 3) rfl, q⟩⟩
theorem ix4 {x y z u v : D} {xs : List D} {Q : D → Prop} : (∃ d, atI (x :: y :: z :: u :: v :: xs) 4 = some d ∧ Q d) = Q v := propext ⟨fun ⟨d, e, q⟩ => by
  rw [show atI (x :: y :: z :: u :: v :: xs) 4 = some v from atI_nat (j := 4) rfl] at e; cases e; exact q, fun q => ⟨v, atI_nat (j := 4) rfl, q⟩⟩
/-! == -/
section
variable {a b : Int} {x y : Str} {p q : Bool}
theorem ok_ii : EqOk (.int a) (.int b) = True := eq_true (.inl rfl)
theorem ok_bb : EqOk (.bool p) (.bool q) = True := eq_true (.inl rfl)
theorem ok_ss : EqOk (.str x) (.str y) = True := eq_true (.inl rfl)
theorem ok_nn : EqOk .none .none = True := eq_true (.inl rfl)
theorem ok_ni : EqOk .none (.int a) = True := eq_true (.inl rfl)
theorem ok_in : EqOk (.int a) .none = True := eq_true (.inl rfl)
theorem ok_nb : EqOk .none (.bool p) = True := eq_true (.inl rfl)
theorem ok_bn : EqOk (.bool p) .none = True := eq_true (.inl rfl)
theorem ok_ns : EqOk .none (.str x) = True := eq_true (.inl rfl)
theorem ok_sn : EqOk (.str x) .none = True := eq_true (.inl rfl)
theorem ok_is : EqOk (.int a) (.str x) = True := eq_true (.inl rfl)
theorem ok_si : EqOk (.str x) (.int a) = True := eq_true (.inl rfl)
theorem ok_bs : EqOk (.bool p) (.str x) = True := eq_true (.inl rfl)
theorem ok_sb : EqOk (.str x) (.bool p) = True := eq_true (.inl rfl)
theorem ev_ii : PyData.eqv (.int a) (.int b) = decide (a = b) := by rw [PyData.eqv]; rfl
theorem ev_bb : PyData.eqv (.bool p) (.bool q) = decide (p = q) := by rw [PyData.eqv]; cases p <;> cases q <;> rfl
theorem ev_ss : PyData.eqv (.str x) (.str y) = decide (x = y) := by rw [PyData.eqv]; rfl
theorem ev_nn : PyData.eqv .none .none = true := by rw [PyData.eqv]
theorem ev_ni : PyData.eqv .none (.int a) = false := by simp [PyData.eqv]
theorem ev_in : PyData.eqv (.int a) .none = false := by simp [PyData.eqv]
theorem ev_nb : PyData.eqv .none (.bool p) = false := by simp [PyData.eqv]
theorem ev_bn : PyData.eqv (.bool p) .none = false := by simp [PyData.eqv]
theorem ev_ns : PyData.eqv .none (.str x) = false := by simp [PyData.eqv]
theorem ev_sn : PyData.eqv (.str x) .none = false := by simp [PyData.eqv]
theorem ev_is : PyData.eqv (.int a) (.str x) = false := by simp [PyData.eqv]
theorem ev_si : PyData.eqv (.str x) (.int a) = false := by simp [PyData.eqv]
theorem ev_bs : PyData.eqv (.bool p) (.str x) = false := by simp [PyData.eqv]
theorem ev_sb : PyData.eqv (.str x) (.bool p) = false := by simp [PyData.eqv]
end
end FL

/-! FL11: list comprehensions by data. -/
namespace FL
open PySem PySem.Spec PyProof.Rows L2
/-- slots forgotten -/
def wipeS (s : Sl) : List Nat → Sl
  | [] => s
  | v :: vs => (wipeS s vs).set v .no
/-- own lists only looked at -/
def lkC : Cel → Cel
  | .ow ds => .lk ds
  | c => c
def lkS (s : Sl) : Sl := s.map lkC
section
variable {K : PySem.W.Frag} {L : Lw} {b : Beg} {F F' : Hp} {s : Sl} {σ : L2.St} {H H' : Hp}
theorem Rel.wipe (R : Rel K L b F s σ H) : ∀ vs : List Nat, Rel K L b F (wipeS s vs) (L2.wipe σ vs) H
  | [] => R
  | v :: vs => (Rel.wipe R vs).drop1
/-- a block begins: a ground of its own, own lists only looked at -/
theorem Rel.inner (R : Rel K L b F s σ H) : Rel K L ⟨H, F, b.dr⟩ F (lkS s) σ H :=
  { R.toGrd.enter with
    len := by unfold lkS; rw [List.length_map]; exact R.len
    slot := fun i c e => by
      unfold lkS at e
      rw [List.getElem?_map] at e
      cases q : s[i]? with
      | none => rw [q] at e; cases e
      | some u =>
        rw [q] at e; cases e
        have x := R.slot i u q
        cases u with
        | no => trivial
        | fz d => exact x
        | dr => exact x
        | lk ds =>
          obtain ⟨a, vs, e, h0, hd, hh, hs⟩ := x
          exact ⟨a, vs, e, by show H a ≠ none; rw [hh]; simp, hd, hh, hs⟩
        | ow ds =>
          obtain ⟨a, vs, e, h0, hd, hf, hh, hs⟩ := x
          exact ⟨a, vs, e, by show H a ≠ none; rw [hh]; simp, hd, hh, hs⟩
    apart := fun i j a n h1 => by
      exfalso
      unfold lkS at h1
      rw [List.getElem?_map] at h1
      cases q : s[i]? with
      | none => rw [q] at h1; exact h1
      | some u => rw [q] at h1; cases u <;> exact h1 }
/-- an object that is told nowhere is changed -/
theorem Rel.poke {p : Addr} {o : HO} {vs : List V} (R : Rel K L b F s σ H) (h0 : b.H0 p = none) (hd : b.dr ≠ some p) (hf : F p = none) (hn : ∀ (i : Nat), isOw s[i]? → σ[i]? ≠ some (some (.ref p)))
    (hp : H p = some (.lst vs)) : Rel K L b F s σ (upd H p o) :=
  { sub := fun a x h => by
      have z : a ≠ p := fun z => by subst z; rw [hf] at h; cases h
      rw [upd_ne z]; exact R.sub a x h
    old := R.old
    new := R.new
    keep := fun a x h d t => by
      have z : a ≠ p := fun z => by subst z; rw [h0] at h; cases h
      rw [upd_ne z]; exact R.keep a x h d t
    live := fun a h => R.live a (by
      by_cases z : a = p
      · subst z; rw [upd_same] at h; cases h
      · rw [upd_ne z] at h; exact h)
    drw := fun a h => by
      have z : a ≠ p := fun z => hd (by rw [← z]; exact h)
      obtain ⟨h1, us, ds, h2, h3⟩ := R.drw a h
      exact ⟨h1, us, ds, by rw [upd_ne z]; exact h2, h3⟩
    tab := fun P h => by
      obtain ⟨ps, e, t⟩ := R.tab P h
      have z : P ≠ p := fun z => by subst z; rw [hp] at e; cases e
      exact ⟨ps, by rw [upd_ne z]; exact e, t⟩
    ntb := R.ntb
    len := R.len
    slot := fun i c e => by
      have x := R.slot i c e
      cases c with
      | no => trivial
      | fz d => exact x
      | dr => exact x
      | lk ds =>
        obtain ⟨a, us, e1, g0, gd, gh, gs⟩ := x
        exact ⟨a, us, e1, g0, gd, by rw [upd_ne (fun z => g0 (by rw [z]; exact h0))]; exact gh, gs⟩
      | ow ds =>
        obtain ⟨a, us, e1, g0, gd, gf, gh, gs⟩ := x
        have z : a ≠ p := fun z => by
          have hi : i < σ.length := by rw [R.len]; exact (List.getElem?_eq_some_iff.mp e).1
          rw [List.getD_eq_getElem?_getD, List.getElem?_eq_getElem hi] at e1
          exact hn i (by rw [e]; trivial) (by rw [List.getElem?_eq_getElem hi, ← z]; exact congrArg some e1)
        exact ⟨a, us, e1, g0, gd, gf, by rw [upd_ne z]; exact gh, gs⟩
    apart := R.apart }
theorem wipeS_ow {vs : List Nat} {i : Nat} (h : isOw (wipeS s vs)[i]?) : isOw s[i]? ∧ i ∉ vs := by
  induction vs with
  | nil => exact ⟨h, by simp⟩
  | cons v vs ih =>
    unfold wipeS at h
    rw [List.getElem?_set] at h
    split at h
    · split at h <;> exact h.elim
    · rename_i z
      exact ⟨(ih h).1, by simp only [List.mem_cons, not_or]; exact ⟨fun e => z e.symm, (ih h).2⟩⟩
end
section
variable (X : Cx) (L : Lw) (W : WX)
/-- a target that only writes the slots vs -/
structure FGc (vs : List Nat) (tg : Expr) (g : TG) (w : Wg) : Prop extends FG X L tg g w where
  only : ∀ v σ H k k', g v σ H k → (∀ σ' H', L2.wipe σ' vs = L2.wipe σ vs → k σ' H' → k' σ' H') → g v σ H k'
structure FGcs (vs : List Nat) (tgs : List Expr) (g : TGs) (w : List D → Sl → (Sl → Prop) → Prop) : Prop extends FGs X L tgs g w where
  only : ∀ us σ H k k', g us σ H k → (∀ σ' H', L2.wipe σ' vs = L2.wipe σ vs → k σ' H' → k' σ' H') → g us σ H k'
structure FTs (es : List Expr) (t : TT) (w : Wt) : Prop where
  pe : PTs X es t
  snd : SndT X.K L W t w
end
section
variable {X : Cx} {L : Lw} {W : WX} {pos p : Pos} {vs : List Nat} {tg e : Expr} {tgs : List Expr} {g : TG} {gs : TGs} {wg : Wg} {wgs : List D → Sl → (Sl → Prop) → Prop} {tA : TT} {vA : Wt}
theorem wipe_set {σ : L2.St} {i : Nat} {x : Option V} : ∀ {vs : List Nat}, i ∈ vs → L2.wipe (σ.set i x) vs = L2.wipe σ vs
  | [], h => by cases h
  | v :: vs, h => by
    unfold L2.wipe
    rcases List.mem_cons.mp h with rfl | h
    · by_cases q : i ∈ vs
      · rw [wipe_set q]
      · have e : ∀ us : List Nat, i ∉ us → L2.wipe (σ.set i x) us = (L2.wipe σ us).set i x := by
          intro us
          induction us with
          | nil => intro _; rfl
          | cons u us ih =>
            intro hu
            rw [List.mem_cons, not_or] at hu
            unfold L2.wipe
            rw [ih hu.2, List.set_comm _ _ hu.1]
        rw [e vs q, List.set_set]
    · rw [wipe_set h]
theorem wipe_idem {σ : L2.St} {vs : List Nat} : ∀ us : List Nat, (∀ u ∈ us, u ∈ vs) → L2.wipe (L2.wipe σ us) vs = L2.wipe σ vs
  | [], _ => rfl
  | u :: us, h => by
    show L2.wipe ((L2.wipe σ us).set u none) vs = _
    rw [wipe_set (h u List.mem_cons_self)]
    exact wipe_idem us fun w z => h w (List.mem_cons_of_mem _ z)
theorem fc_name {i : Nat} {x : Str} (hN : X.N.Nodup) (hv : i ∈ vs) (hi : X.N[i]? = some x := by rfl) (hx : Loc X.env.scope x := by first | exact Or.inl rfl | exact Or.inr rfl) (hf : X.fn x = true ∨ X.env.scope.names.lookup x = some .local := by first | exact .inl rfl | exact .inr rfl | assumption) : FGc X L vs (.Name x pos) (gName i) (wgName i) :=
  { fg_name hN hi hx hf with only := fun v σ H k k' h q => q _ _ (wipe_set hv) h }
theorem fcs_nil : FGcs X L vs [] gNil wgNil := { fgs_nil with only := fun us σ H k k' ⟨e, h⟩ q => ⟨e, q _ _ rfl h⟩ }
theorem fcs_cons (h1 : FGc X L vs tg g wg) (h2 : FGcs X L vs tgs gs wgs) (he : (assignEach (tg :: tgs) X.env).map (·.2) = assign tg X.env :: (assignEach tgs X.env).map (·.2) := by rfl) : FGcs X L vs (tg :: tgs) (gCons g gs) (wgCons wg wgs) :=
  { fgs_cons h1.toFG h2.toFGs he with only := fun us σ H k k' ⟨v, r, e, h⟩ q => ⟨v, r, e, h1.only v σ H _ _ h fun σ1 H1 e1 h1 => h2.only r σ1 H1 k k' h1 fun σ2 H2 e2 => q σ2 H2 (e2.trans e1)⟩ }
theorem fc_tup {k n : Nat} (hc : X.calm = true) (h : FGcs X L vs tgs gs wgs) (hn : (assignEach tgs X.env).length = n := by rfl) (hst : (assignEach tgs X.env).findIdx? (·.1) = none := by rfl) : FGc X L vs (.Tuple tgs k pos) (gTup X.K n gs) (wgTup n wgs) :=
  { fg_tup hc h.toFGs hn hst with only := fun v σ H k k' ⟨a, xs, e, h1, h2, h3⟩ q => ⟨a, xs, e, h1, h2, h.only xs σ H k k' h3 q⟩ }
def wYes : Wt := fun _ Q _ => Q true
theorem fts_nil : FTs X L W [] tYes wYes := ⟨pts_nil, fun b F s σ H Q R k I h hx kk => kk F true H I (Same.refl F) Kp.refl h⟩
theorem fts_one (h : FT X L W e tA vA) : FTs X L W [e] tA vA := ⟨pts_one h.pe, h.snd⟩
theorem FE.cast {L : Lw} {W : WX} {t t' : TE} {w : We} (h : FE X L W e t' w) (q : t' = t) : FE X L W e t w := q ▸ h
theorem FTs.cast {L : Lw} {W : WX} {es : List Expr} {t t' : TT} {w : Wt} (h : FTs X L W es t' w) (q : t' = t) : FTs X L W es t w := q ▸ h
theorem FGc.cast {L : Lw} {t t' : TG} {w : Wg} (h : FGc X L vs tg t' w) (q : t' = t) : FGc X L vs tg t w := q ▸ h
/-- what a comprehension's turns build -/
def wLcL (wg : Wg) (wt : Wt) (we : We) (vs : List Nat) (ds : List D) : Sl → (List D → Prop) → Prop := fun s Q => ∃ I : Nat → List D → Prop, I 0 [] ∧
  (∀ i d acc, ds[i]? = some d → I i acc → wg d (wipeS (lkS s) vs) fun s2 => wt s2 (fun c => cond c (we s2 (fun y => acc.length < sizeLine ∧ I (i + 1) (acc ++ [y])) fun _ => False) (I (i + 1) acc)) fun _ => False) ∧
  ∀ acc, I ds.length acc → Q acc
def wLc (wl : Wl) (wg : Wg) (wt : Wt) (we : We) (vs : List Nat) : Wl := fun s Q R => wl s (fun ds => wLcL wg wt we vs ds s Q) R
abbrev WF : WX := fun _ _ _ _ => False
def KpD (b : Beg) (p : Addr) (H H' : Hp) : Prop := ∀ a o, a ≠ p → H a = some o → b.dr ≠ some a → (∀ ps, o ≠ .tbl ps) → H' a = some o
section
variable {iter elt : Expr} {ifs : List Expr} {scope : Scope} {own : List (Str × Nat)} {wi : TI} {tt : TT} {te : TE} {wl : Wl} {wt : Wt} {we : We}
theorem snd_lc (hi : SndI X.K L W wi wl) (hg : ∃ X' tg, FGc X' L vs tg g wg ∧ X'.K = X.K) (ht : SndT X.K L WF tt wt) (he : Snd X.K L WF te we) : SndN X.K L W (tLc wi g tt te vs) (wLc wl wg wt we vs) := by
  obtain ⟨X', tg', hg, hK⟩ := hg
  intro b F s σ H Q R k I h hx kk
  refine hi b F s σ H _ R _ I h hx fun F1 ds J H1 I1 m1 k1 wd q D hD => ?_
  obtain ⟨Iv, i0, ist, ie⟩ := q
  have h0 := I1.live D hD
  have hd := I1.dr_some hD
  have hn : ∀ (i : Nat), isOw s[i]? → σ[i]? ≠ some (some (.ref D)) := fun i y => I1.ow_some hD i y
  refine ⟨fun i m H2 => m = ds.length - i ∧ i ≤ ds.length ∧ ∃ F2 us acc, Rel X.K L b F2 s σ H2 ∧ Same F1 F2 ∧ KpD b D H1 H2 ∧ F2 D = none ∧ H2 D = some (.lst us) ∧ DtAll X.K F2 us acc ∧ Iv i acc,
    ⟨_, rfl, Nat.zero_le _, F1, [], [], I1.lay hD, Same.refl F1, fun a o z e d t => by rw [upd_ne z]; exact e, I1.f_none hD, upd_same, .nil, i0⟩, ?_⟩
  rintro i m H2 ⟨rfl, hle, F2, us, acc, I2, m2, k2, hf, hH, r, iv⟩
  have Ij := I2.inner
  obtain ⟨hgo, hstop, hy⟩ := wd _ F2 _ σ H2 Ij m2 trivial
  by_cases hi : i < ds.length
  · refine .inr ⟨hgo i hi, fun H3 => i + 1 ≤ ds.length ∧ ∃ F3 us acc, Rel X.K L b F3 s σ H3 ∧ Same F1 F3 ∧ KpD b D H1 H3 ∧ F3 D = none ∧ H3 D = some (.lst us) ∧ DtAll X.K F3 us acc ∧ Iv (i + 1) acc,
      fun H3 ⟨z1, z2⟩ => ⟨ds.length - (i + 1), by omega, rfl, z1, z2⟩, fun x H3 hyy => ?_⟩
    obtain ⟨F3, d, e3, I3, m3, k3, r3⟩ := hy i x H3 hi hyy
    have q := ist i d acc e3 iv
    refine hg.only x _ H3 _ _ (hg.snd ⟨H2, F2, b.dr⟩ F3 _ _ H3 x d _ (fun σ' H' => tt σ' H' fun b1 H3 => if b1 = true then te σ' H3 fun y H4 => ∃ acc, H4 D = some (.lst acc) ∧ acc.length < sizeLine ∧ (i + 1 ≤ ds.length ∧ ∃ F3 us acc', Rel X.K L b F3 s σ (upd H4 D (.lst (acc ++ [y]))) ∧ Same F1 F3 ∧ KpD b D H1 (upd H4 D (.lst (acc ++ [y]))) ∧ F3 D = none ∧ (upd H4 D (.lst (acc ++ [y]))) D = some (.lst us) ∧ DtAll X.K F3 us acc' ∧ Iv (i + 1) acc') else (i + 1 ≤ ds.length ∧ ∃ F3 us acc, Rel X.K L b F3 s σ H3 ∧ Same F1 F3 ∧ KpD b D H1 H3 ∧ F3 D = none ∧ H3 D = some (.lst us) ∧ DtAll X.K F3 us acc ∧ Iv (i + 1) acc))
      (by rw [hK]; exact I3.wipe vs) (by rw [hK]; exact r3) q fun F4 s4 σ4 H4 I4 m4 q4 => ?_) fun σ' H' e q => ⟨e.trans (wipe_idem vs fun _ z => z), q⟩
    rw [hK] at I4
    refine ht _ F4 s4 σ4 H4 _ (fun _ => False) _ I4 q4 (fun _ _ _ _ _ z => z.elim) fun F5 c H5 I5 m5 k5 q5 => ?_
    -- back to the ground around
    have back : ∀ {F6 : Hp} {s6 : Sl} {σ6 : L2.St} {H6 : Hp}, Rel X.K L ⟨H2, F2, b.dr⟩ F6 s6 σ6 H6 → Same F2 F6 → Rel X.K L b F6 s σ H6 ∧ KpD b D H1 H6 ∧ F6 D = none ∧ H6 D = some (.lst us) ∧ DtAll X.K F6 us acc := fun {F6 s6 σ6 H6} I6 m6 => by
      have g := I6.toGrd
      refine ⟨I2.back g, fun a o z e d t => g.keep a o (k2 a o z e d t) d t, ?_, g.keep D _ hH hd (fun ps z => by cases z), dps_mono m6 r⟩
      cases z : F6 D with
      | none => rfl
      | some o =>
        rcases g.new D o z with y | y
        · rw [show F2 D = some o from y] at hf; cases hf
        · rw [show H2 D = none from y] at hH; cases hH
    have m25 : Same F2 F5 := m3.trans (m4.trans m5)
    cases c with
    | false =>
      rw [if_neg Bool.false_ne_true]
      obtain ⟨I6, k6, f6, h6, r6⟩ := back I5 m25
      exact ⟨hi, F5, us, acc, I6, m2.trans m25, k6, f6, h6, r6, q5⟩
    | true =>
      rw [if_pos rfl]
      refine he _ F5 s4 σ4 H5 _ (fun _ => False) _ I5 q5 (fun _ _ _ _ _ z => z.elim) fun F6 y v H6 I6 m6 k6 r6 q6 => ?_
      obtain ⟨I7, k7, f7, h7, r7⟩ := back I6 (m25.trans m6)
      refine ⟨us, h7, by rw [dps_len r7]; exact q6.1, hi, F6, _, _, I7.poke h0 hd f7 hn h7, m2.trans (m25.trans m6), fun a o z e d t => by rw [upd_ne z]; exact k7 a o z e d t, f7, upd_same, dps_app r7 (dps_one r6), q6.2⟩
  · have e : i = ds.length := by omega
    subst e
    refine .inl ⟨hstop, kk F2 acc D us H2 I2 (m1.trans m2) (fun a o e d t => k2 a o (fun z => ?_) (k1 a o e d t) d t) ⟨h0, hd, hf, hn⟩ hH r (ie acc iv)⟩
    subst z
    rw [k1 a o e d t] at hD
    cases hD
theorem fn_lc (hc : X.calm = true) (hN : X.N.Nodup) (hi : FI X L W tg iter wi wl) (ok : BlkOk X.N X.env.scope scope own)
    (hg : ∀ (s : Shared) (H : Hp) (C : Addr) (cl : List (Str × Addr)) (fp : List Addr), FGc (X.blk s H scope (compEnvC scope cl C X.env) fp) L (own.map (·.2)) tg g wg) (ht : ∀ (s : Shared) (H : Hp) (C : Addr) (cl : List (Str × Addr)) (fp : List Addr), FTs (X.blk s H scope (compEnvC scope cl C X.env) fp) L WF ifs tt wt)
    (he : ∀ (s : Shared) (H : Hp) (C : Addr) (cl : List (Str × Addr)) (fp : List Addr), FE (X.blk s H scope (compEnvC scope cl C X.env) fp) L WF elt te we) (hs : ∀ x, foldedSetIterable iter X.env x = pure x := by intro _; rfl) :
    FN X L W (.ListComp elt [⟨tg, iter, ifs, 0⟩] scope pos) (tLc wi g tt te (own.map (·.2))) (wLc wl wg wt we (own.map (·.2))) :=
  ⟨pe_lc hc hN hi.pe ok (fun s H C cl fp => (hg s H C cl fp).pe) (fun s H C cl fp => (ht s H C cl fp).pe) (fun s H C cl fp => (he s H C cl fp).pe) hs,
    snd_lc hi.snd ⟨_, _, hg X.s_0 X.H_0 0 [] [], rfl⟩ (ht X.s_0 X.H_0 0 [] []).snd (he X.s_0 X.H_0 0 [] []).snd⟩
/-- name = [..] on one line -/
def wSetL (i : Nat) (wl : Wl) : Ws := fun s E => wl s (fun ds => E.nx (s.set i (.fz (.list ds)))) E.ex
theorem fs_setLcO {i : Nat} {y : Str} {py spos : Pos} (hc : X.calm = true) (hN : X.N.Nodup) (hi : FI X L W tg iter wi wl) (ok : BlkOk X.N X.env.scope scope own)
    (hg : ∀ (s : Shared) (H : Hp) (C : Addr) (cl : List (Str × Addr)) (fp : List Addr), FGc (X.blk s H scope (compEnvC scope cl C X.env) fp) L (own.map (·.2)) tg g wg) (ht : ∀ (s : Shared) (H : Hp) (C : Addr) (cl : List (Str × Addr)) (fp : List Addr), FTs (X.blk s H scope (compEnvC scope cl C X.env) fp) L WF ifs tt wt)
    (he : ∀ (s : Shared) (H : Hp) (C : Addr) (cl : List (Str × Addr)) (fp : List Addr), FE (X.blk s H scope (compEnvC scope cl C X.env) fp) L WF elt te we) (hy : X.N[i]? = some y := by rfl) (hyl : X.env.scope.names.lookup y = some .local := by rfl)
    (hsw : swapsWith (.ListComp elt [⟨tg, iter, ifs, 0⟩] scope pos) (some (.Name y py)) spos.line X.env = pure true := by rfl) (hs : ∀ x, foldedSetIterable iter X.env x = pure x := by intro _; rfl) :
    FS X L W (.Assign [.Name y py] (.ListComp elt [⟨tg, iter, ifs, 0⟩] scope pos) spos) (tAsg (tLc wi g tt te (own.map (·.2))) (gName i)) (wSetO i (wLc wl wg wt we (own.map (·.2)))) := by
  refine ⟨ps_setLc hc hN hy hyl hsw hi.pe ok (fun s H C cl fp => (hg s H C cl fp).pe) (fun s H C cl fp => (ht s H C cl fp).pe) (fun s H C cl fp => (he s H C cl fp).pe) hs, fun b F s σ H E D' I h ok' => ?_⟩
  exact snd_lc hi.snd ⟨_, _, hg X.s_0 X.H_0 0 [] [], rfl⟩ (ht X.s_0 X.H_0 0 [] []).snd (he X.s_0 X.H_0 0 [] []).snd b F s σ H _ E.ex _ I h ok'.exw fun F1 ds q vs H1 I1 m1 k1 fr e1 r1 z => ok'.nx F1 _ _ H1 (I1.putO fr.h0 fr.hd fr.hf fr.hn e1 r1) m1 z
theorem fs_setLc {i : Nat} {y : Str} {py spos : Pos} (hc : X.calm = true) (hN : X.N.Nodup) (hi : FI X L W tg iter wi wl) (ok : BlkOk X.N X.env.scope scope own)
    (hg : ∀ (s : Shared) (H : Hp) (C : Addr) (cl : List (Str × Addr)) (fp : List Addr), FGc (X.blk s H scope (compEnvC scope cl C X.env) fp) L (own.map (·.2)) tg g wg) (ht : ∀ (s : Shared) (H : Hp) (C : Addr) (cl : List (Str × Addr)) (fp : List Addr), FTs (X.blk s H scope (compEnvC scope cl C X.env) fp) L WF ifs tt wt)
    (he : ∀ (s : Shared) (H : Hp) (C : Addr) (cl : List (Str × Addr)) (fp : List Addr), FE (X.blk s H scope (compEnvC scope cl C X.env) fp) L WF elt te we) (hy : X.N[i]? = some y := by rfl) (hyl : X.env.scope.names.lookup y = some .local := by rfl)
    (hsw : swapsWith (.ListComp elt [⟨tg, iter, ifs, 0⟩] scope pos) (some (.Name y py)) spos.line X.env = pure true := by rfl) (hs : ∀ x, foldedSetIterable iter X.env x = pure x := by intro _; rfl) :
    FS X L W (.Assign [.Name y py] (.ListComp elt [⟨tg, iter, ifs, 0⟩] scope pos) spos) (tAsg (tLc wi g tt te (own.map (·.2))) (gName i)) (wSetL i (wLc wl wg wt we (own.map (·.2)))) := by
  refine ⟨ps_setLc hc hN hy hyl hsw hi.pe ok (fun s H C cl fp => (hg s H C cl fp).pe) (fun s H C cl fp => (ht s H C cl fp).pe) (fun s H C cl fp => (he s H C cl fp).pe) hs, fun b F s σ H E D' I h ok' => ?_⟩
  refine snd_lc hi.snd ⟨_, _, hg X.s_0 X.H_0 0 [] [], rfl⟩ (ht X.s_0 X.H_0 0 [] []).snd (he X.s_0 X.H_0 0 [] []).snd b F s σ H _ E.ex _ I h ok'.exw fun F1 ds q vs H1 I1 m1 k1 fr e1 r1 z => ?_
  have I2 := I1.tell fr.h0 fr.hd e1 fr.hf (fun ps z => by cases z) fr.hn
  exact ok'.nx _ _ _ H1 (I2.put (.lst (.inl (.inl upd_same)) (dps_mono (same_upd fr.hf) r1))) (m1.trans (same_upd fr.hf)) z
theorem takes_wf {X : Cx} : Takes X WF := fun u s' ⟨_, _, _, _, _, _, _, _, _, _, _, _, _, _, _, _, z⟩ => z.elim
end
end
end FL

/-! FL12: all, any of a generator expression: the run of its body under the hand layer's state. -/
namespace FLG
open PySem PySem.Spec PyProof.Rows L2 GenW
/-- the context of a generator expression's body -/
abbrev gbx (X : Cx) (Ag : Around) (s : Shared) (H : Hp) (scope : Scope) (cenv : Env) (fp : List Addr) (pn : List (Addr × Obj)) : Cx :=
  { X with A := Ag, s_0 := s, H_0 := H, env := cenv, outer := X.stack, stack := cenv :: X.stack, ex := fp, fn := fun x => scope.names.lookup x == some .cell, pn := pn, xe := fun _ _ => False }
section
variable {X : Cx} {pins : List (Addr × Obj)} {σ : L2.St} {H : Hp} {s : Shared}
theorem gen_start {scope : Scope} {own : List (Str × Nat)} {fp : List Addr} {Ag : Around} {code : Value} {it : Value} {h' : Heap} {go : Obj} {s2 : Shared} {fo : Obj} (I : Inv X pins σ H s) (ok : BlkOk X.N X.env.scope scope own) (hN : X.N.Nodup) (hcell : ∀ y ∈ scope.names, y.2 ≠ .cell)
    (hfp : ∀ b ∈ fp, FpOk X pins H b ∧ b < s.heap.objs.size) (hd : Ag.handled = none) (hf : Ag.frames = some (genEnv scope (cloFrom X.env.cells scope.names []) s.heap.objs.size code builtinsNs X.env :: X.stack))
    (hn : h'.Ns s.heap.objs.size fun y => if y = ".0" then some it else none) (hs : Heap.SameBut s.heap.objs.size (s.heap.push fo) h') (he : s2.heap = h'.push go) (hos : s2.os = s.os) (hg : AllBare s2.gens) (hgo : ∀ v, go.data ≠ .cell v) (hgf : (h'.push go).get? h'.objs.size = some go) :
    Inv (gbx X Ag s H scope (genEnv scope (cloFrom X.env.cells scope.names []) s.heap.objs.size code builtinsNs X.env) fp [(h'.objs.size, go)]) [] (wipe σ (own.map (·.2))) H s2 := by
  have hfree : ∀ y ∈ scope.names, y.2 = .free → ∃ c, X.env.cells.lookup y.1 = some c := fun y hy e => by
    rcases ok.free y hy e with k | k
    · exact I.ok.has _ (.inl k)
    · exact I.ok.has _ (.inr k)
  generalize hcenv : genEnv scope (cloFrom X.env.cells scope.names []) s.heap.objs.size code builtinsNs X.env = cenv at hf
  have kp : ∀ b o, s.heap.get? b = some o → s2.heap.get? b = some o := fun b o e => by
    rw [he]
    exact Heap.get?_push_of_some _ (hs.extBut b o (Nat.ne_of_lt (Heap.lt_size e)) (Heap.get?_push_of_some _ e))
  have hL : cenv.locals = s.heap.objs.size := by rw [← hcenv]; rfl
  have hcl : cenv.cells = cloFrom X.env.cells scope.names [] := by rw [← hcenv]; rfl
  have hsc : cenv.scope = scope := by rw [← hcenv]; rfl
  have cm : ∀ {y c}, cenv.cells.lookup y = some c → X.env.cells.lookup y = some c ∧ c < s.heap.objs.size := fun {y c} e => by
    rw [hcl] at e
    rcases cloFrom_mem (PySem.mem_of_lookup e) with hm | ⟨h1, rfl⟩
    · cases hm
    · obtain ⟨c, hc⟩ := hfree _ h1 rfl
      rw [hc]
      obtain ⟨w, z⟩ := I.cell _ _ hc
      exact ⟨rfl, z.lt⟩
  have look : ∀ {y}, scope.names.lookup y = some .free → ∃ c, cenv.cells.lookup y = some c ∧ X.env.cells.lookup y = some c := fun {y} hl => by
    have hy : (y, NameKind.free) ∈ scope.names := PySem.mem_of_lookup hl
    obtain ⟨c', e'⟩ := L2.mem_lookup (cloFrom_has (cells := X.env.cells) (acc := []) hy)
    rw [← hcl] at e'
    exact ⟨c', e', (cm e').1⟩
  have nocell : ∀ {y}, scope.names.lookup y ≠ some .cell := fun {y} e => hcell _ (PySem.mem_of_lookup e) rfl
  have sz : h'.objs.size = s.heap.objs.size + 1 := hs.1.trans (Heap.size_push ..)
  have okB : (gbx X Ag s H scope cenv fp [(h'.objs.size, go)]).Ok := by
    refine ⟨I.ok.mod, by show cenv.scope.kind = _; rw [hsc]; exact ok.kind, by show cenv.globals = _; rw [← hcenv]; exact I.ok.glob, by show cenv.builtins = _; rw [← hcenv]; rfl, by show s.heap.objs.size ≤ cenv.locals; rw [hL]; exact Nat.le_refl _,
      fun y z c e1 e2 => I.ok.inj y z c (cm e1).1 (cm e2).1, fun y hy => ?_, fun y c z e => ?_, fun _ => hd, hf, .inr ⟨rfl, ?_⟩, fun b hb => ⟨?_, fun y c e z => ?_⟩, I.bs, Nat.le_trans I.ok.bsz I.sz, fun b o e hb => ?_, fun b hb z => ?_, I.stack, I.stkFree⟩
    · have hy : scope.names.lookup y = some .cell ∨ scope.names.lookup y = some .free := by
        have hy : cenv.scope.names.lookup y = some .cell ∨ cenv.scope.names.lookup y = some .free := hy
        rw [hsc] at hy; exact hy
      rcases hy with hy | hy
      · exact absurd hy nocell
      · obtain ⟨c, h1, _⟩ := look hy
        exact ⟨c, h1⟩
    · have z : (scope.names.lookup y == some NameKind.cell) = true := z
      have z : scope.names.lookup y = some .cell := by simpa using z
      exact absurd z nocell
    · show cenv.frame = some cenv.locals
      rw [← hcenv]; rfl
    · show b ≠ cenv.locals
      rw [hL]; exact Nat.ne_of_lt (hfp b hb).2
    · exact (hfp b hb).1.2.2.2.2.1 y c (cm e).1 z
    · rcases (hfp b hb).1.2.2.2.1 with z | z
      · exact I.ok.noex b o e z
      · exact absurd (Nat.lt_of_lt_of_le (Heap.lt_size e) (Nat.le_trans I.ok.bsz z)) (Nat.lt_irrefl _)
    · rcases List.mem_cons.mp (I.stkSub b z) with z | z
      · exact (hfp b hb).1.2.1 z
      · exact (hfp b hb).1.2.2.1 z
  have young : s.heap.objs.size ≤ h'.objs.size := by omega
  refine ⟨okB, hos, hg, Un.kept kp, ⟨(fun y => if y = (".0" : Str) then some it else none), ?_, fun i y av e1 e2 e3 => ?_⟩, fun y c e => ?_, ?_, fun y c e => ?_, fun p hp => ?_, I.hok.kept kp, by rw [wipe_length]; exact I.len⟩
  · show Heap.Ns _ cenv.locals _
    rw [hL, he]
    exact hn.keeps fun b o e => Heap.get?_push_of_some _ e
  · obtain ⟨e2, hne⟩ := wipe_some e2
    have e3 : Vis scope y := by
      have e3 : Vis cenv.scope y := e3
      rw [hsc] at e3; exact e3
    have hfr : scope.names.lookup y = some .free := by
      rcases e3 with e3 | e3 | e3
      · rcases ok.own _ (PySem.mem_of_lookup e3) (.inl rfl) with e' | e'
        · obtain ⟨p, hp, hpy⟩ := List.mem_map.mp e'
          have e4 := ok.ix p hp
          have : p.1 = y := hpy
          rw [this] at e4
          exact absurd (List.mem_map.mpr ⟨p, hp, nodup_ix hN e4 e1⟩) hne
        · exact absurd (List.mem_of_getElem? e1) e'
      · exact absurd e3 nocell
      · exact e3
    obtain ⟨m, hn', hl⟩ := I.loc
    have hvis : Vis X.env.scope y := (ok.free _ (PySem.mem_of_lookup hfr) rfl).elim (fun k => .inr (.inl k)) (fun k => .inr (.inr k))
    obtain ⟨w, r, q⟩ := hl i y av e1 e2 hvis
    obtain ⟨c, h1, h2⟩ := look hfr
    refine ⟨w, r, .inr ⟨.inr (by show cenv.scope.names.lookup y = _; rw [hsc]; exact hfr), c, h1, ?_⟩⟩
    rcases q with ⟨k, _⟩ | ⟨_, c', e', z⟩
    · have k : X.env.scope.names.lookup y = some .local := k
      rcases ok.free _ (PySem.mem_of_lookup hfr) rfl with k' | k' <;> rw [show X.env.scope.names.lookup y = _ from k'] at k <;> cases k
    · rw [h2] at e'; cases e'
      exact z.keeps kp
  · obtain ⟨w, z⟩ := I.cell y c (cm e).1
    exact ⟨w, z.keeps kp⟩
  · show H cenv.locals = none
    rw [hL]; exact I.hok.fresh (Nat.le_refl _)
  · exact I.freeC y c (cm e).1
  · have hp : p = (h'.objs.size, go) := by simpa using hp
    subst hp
    refine ⟨by rw [he]; exact hgf, I.hok.fresh young, ?_, fun z => ?_, hgo⟩
    · show h'.objs.size ≠ cenv.locals
      rw [hL]; omega
    · rcases List.mem_cons.mp (I.stkSub _ z) with z | z
      · have h1 : X.env.locals < s.heap.objs.size := I.lt
        rw [← z] at h1
        exact Nat.lt_irrefl _ (Nat.lt_of_lt_of_le h1 young)
      · exact I.nofs young z
/-- the machine's own: the generator expression's turn -/
abbrev genX (elt tg iter : Expr) (ifs : List Expr) (scope : Scope) (pos : Pos) : Expr := .GeneratorExp elt [⟨tg, iter, ifs, 0⟩] scope pos
structure GBody (J : It) (g : TG) (tt : TT) (te : TE) (vs : List Nat) (c : Bool) (σ : L2.St) (Q : VK) where
  W : Nat → Nat → Hp → Prop
  turn : ∀ i m H, W i m H → (J.stop i H ∧ Q (.bl (!c)) H) ∨ (J.go i H ∧ ∃ Nx : Hp → Prop, (∀ H', Nx H' → ∃ m', m' < m ∧ W (i + 1) m' H') ∧ ∀ x H', J.yld i H x H' → g x (wipe σ vs) H' fun σ2 H2 => wipe σ2 vs = wipe σ vs ∧ tt σ2 H2 fun b H3 =>
    if b = true then te σ2 H3 fun y H4 => ∃ z, y = .bl z ∧ if z = c then Q (.bl c) H4 else Nx H4 else Nx H3)
/-- its end: the def's state again, the answer for all -/
def GEnd (X : Cx) (pins : List (Addr × Obj)) (σ : L2.St) (c : Bool) (Q : VK) : GenEnd := fun _ _ r s1 => r = .ok .next ∧ ∃ H', Inv X pins σ H' s1 ∧ Q (.bl (!c)) H'
/-- a test told: it ends the walk, or the generator goes on from a state alike -/
def GItem (X : Cx) (pins : List (Addr × Obj)) (σ : L2.St) (c : Bool) (Q : VK) (a : Addr) (gn : Nat) : Protocol := fun _ _ v s1 kap =>
  ∃ z, v = .bool z ∧ s1.heap.IsGen a gn ∧ s1.heap.NoLimit ∧ AllBare s1.gens ∧ if z = c then ∃ H', Inv X pins σ H' s1 ∧ Q (.bl c) H' else ∀ s2 : Shared, s2.heap = s1.heap → s2.os = s1.os → AllBare s2.gens → kap (.send .none) s2
theorem inv_gens {s2 : Shared} (I : Inv X pins σ H s) (hh : s2.heap = s.heap) (hos : s2.os = s.os) (hg : AllBare s2.gens) : Inv X pins σ H s2 :=
  I.call' (ch := []) hos (by rw [hh]; exact Un.kept fun _ _ e => e) (by rw [hh]; exact I.hok) hg fun b z => by simp at z
theorem inv_grown {s2 : Shared} (I : Inv X pins σ H s) (hh : ∀ b o, s.heap.get? b = some o → s2.heap.get? b = some o) (hos : s2.os = s.os) (hg : AllBare s2.gens) : Inv X pins σ H s2 :=
  I.call' (ch := []) hos (Un.kept hh) (I.hok.kept hh) hg fun b z => by simp at z
theorem seg_gen {scope : Scope} {own : List (Str × Nat)} {fp : List Addr} {B : Around} {cenv : Env} {go : Obj} {a it : Addr} {gn : Nat} {elt tg iter : Expr} {ifs : List Expr} {gpos : Pos} {g : TG} {tt : TT} {te : TE} {c : Bool} {Q : VK} {J : It} {tn : Nat → Heap → Prop}
    (hc : X.calm = true) (I : Inv X pins σ H s) (hfp : ∀ b ∈ fp, FpOk X pins H b ∧ b < s.heap.objs.size) (hco : cenv.scope.isCoroutine = false)
    (T : Turn X.prog X.w X.K tg J fp it tn) (D : GBody J g tt te (own.map (·.2)) c σ Q)
    (hgo : ∀ h : Heap, h.get? a = some go → h.IsGen a gn) (hsa : s.heap.objs.size ≤ a)
    (pg : PG (gbx X (B.over (.compLoop (genX elt tg iter ifs scope gpos) 0 (.ref it) .none cenv) []) s H scope cenv fp [(a, go)]) tg g)
    (pt : PTs (gbx X (B.over (.compLoop (genX elt tg iter ifs scope gpos) 0 (.ref it) .none cenv) []) s H scope cenv fp [(a, go)]) ifs tt)
    (pe : PE (gbx X (B.over (.compLoop (genX elt tg iter ifs scope gpos) 0 (.ref it) .none cenv) []) s H scope cenv fp [(a, go)]) elt te) :
    ∀ (n m i : Nat) (s₀ s5 : Shared) (H5 : Hp), m < n → D.W i m H5 → Inv (gbx X (B.over (.compLoop (genX elt tg iter ifs scope gpos) 0 (.ref it) .none cenv) []) s H scope cenv fp [(a, go)]) [] (wipe σ (own.map (·.2))) H5 s5 → tn i s5.heap → (∀ b ∈ fp, H5 b = none) →
      Seg (model X.prog X.w) B (GEnd X pins σ c Q) (GItem X pins σ c Q a gn) n s₀ (.compLoop (genX elt tg iter ifs scope gpos) 0 (.ref it) .none cenv)
        ((model X.prog X.w).den (.compLoop (genX elt tg iter ifs scope gpos) 0 (.ref it) .none cenv)) [] s5 := by
  generalize hA : B.over (.compLoop (genX elt tg iter ifs scope gpos) 0 (.ref it) .none cenv) [] = Ag at pg pt pe
  have stat : ∀ {σ' : L2.St} {H' : Hp} {s' : Shared}, Inv (gbx X Ag s H scope cenv fp [(a, go)]) [] σ' H' s' → (∀ b ∈ fp, H' b = none) → ∀ b ∈ fp, FpOk (gbx X Ag s H scope cenv fp [(a, go)]) [] H' b := fun {σ' H' s'} I' hn b hb =>
    ⟨hn b hb, (I'.ok.exf b hb).1, I'.ok.exfs b hb, .inl hb, fun x c e => (I'.ok.exf b hb).2 x c e, fun p hp => by
      have hp : p = (a, go) := by simpa using hp
      subst hp
      exact fun z => absurd (hfp b hb).2 (Nat.not_lt_of_le (by rw [← show a = b from z]; exact hsa))⟩
  -- back in the def's context
  have back : ∀ {σ' : L2.St} {H' : Hp} {s' : Shared} {pins' : List (Addr × Obj)}, Inv (gbx X Ag s H scope cenv fp [(a, go)]) pins' σ' H' s' → Inv X pins σ H' s' := fun {σ' H' s' pins'} I6 =>
    I.call' (ch := fp) I6.os I6.base I6.hok I6.bare fun b hb => ⟨(hfp b hb).1.2.2.2.1, (hfp b hb).1.2.1, (hfp b hb).1.2.2.2.2.1, (hfp b hb).1.2.2.2.2.2⟩
  intro n
  induction n with
  | zero => intro m i s₀ s5 H5 hm; exact absurd hm (Nat.not_lt_zero _)
  | succ n ihn =>
    intro m
    induction m using Nat.strongRecOn with
    | ind m ihm =>
      intro i s₀ s5 H5 hmn w5 I5 st5 n5
      show Seg _ B _ _ _ s₀ _ ((compTurn (genX elt tg iter ifs scope gpos) 0 (.ref it) .none cenv).onRaise (leaving cenv)) [] s5
      rw [compTurn_gen, Sem.onRaise_eq_wrap]
      refine seg_bind_wrap (wpAny_standAt ?_)
      have hcB : (gbx X Ag s H scope cenv fp [(a, go)]).calm = true := hc
      rcases D.turn i m H5 w5 with ⟨stop, qq⟩ | ⟨go', Nx, hNx, step⟩
      · have td := T.done (gbx X Ag s H scope cenv fp [(a, go)]) rfl rfl rfl hcB i [] s5 _ H5 (fun _ _ => False) I5 (stat I5 n5) st5 stop
        refine seg_bind_wrap ?_
        rw [hA]
        refine thnF td fun r s6 ⟨hr, I6⟩ => ?_
        subst hr
        exact seg_end (.ok .next) ⟨rfl, H5, back I6, qq⟩
      · have ti := T.item (gbx X Ag s H scope cenv fp [(a, go)]) rfl rfl rfl hcB i [] s5 _ H5 (fun _ _ => False) I5 (stat I5 n5) st5 go'
        refine seg_bind_wrap ?_
        rw [hA]
        refine thnF ti fun r s6 ⟨u, hr, h6⟩ => ?_
        subst hr
        refine seg_bind_wrap ?_
        rw [hA]
        refine thnF h6 fun _ s7 ⟨x, H7, I7, r7, y7, st7, n7⟩ => ?_
        have I7' := I7.pinned (stat I7 n7) (T.obj _ _ st7)
        refine seg_bind_wrap ?_
        rw [hA]
        refine thnF (pg.run _ s7 _ H7 x u _ I7' r7 (step x H7 y7)) fun _ s8 ⟨σ8, H8, I8, hw8, q8⟩ => ?_
        refine seg_bind_wrap ?_
        rw [hA]
        refine thnF (pt.run _ s8 σ8 H8 _ I8 q8) fun b s9 ⟨H9, I9, q9⟩ => ?_
        -- the turn's end
        have fin : ∀ {s' : Shared} {H' : Hp}, Inv (gbx X Ag s H scope cenv fp [(a, go)]) ([] ++ pinsAt fp s7.heap) σ8 H' s' → Inv (gbx X Ag s H scope cenv fp [(a, go)]) [] (wipe σ (own.map (·.2))) H' s' ∧ tn (i + 1) s'.heap ∧ ∀ b ∈ fp, H' b = none := fun {s' H'} I' => by
          have pin' : ∀ b ∈ fp, ∀ o, s7.heap.get? b = some o → s'.heap.get? b = some o ∧ H' b = none := fun b hb o e =>
            let z := I'.pin (b, o) (List.mem_append_right _ (List.mem_append_right _ (mem_pinsAt hb e)))
            ⟨z.1, z.2.1⟩
          have hl : (wipe σ (own.map (·.2))).length = σ8.length := by rw [← hw8, wipe_length]
          refine ⟨(I'.unpinned (pins := [])).weak hl (fun j v e => ?_), T.keep _ _ _ st7 fun b hb o e => (pin' b hb o e).1, fun b hb => ?_⟩
          · rw [← hw8] at e
            exact (wipe_some e).1
          · obtain ⟨o, e, _⟩ := T.obj _ _ st7 b hb
            exact (pin' b hb o e).2
        cases b with
        | false =>
          simp only [Bool.false_eq_true, if_false] at q9 ⊢
          obtain ⟨m', hm', w'⟩ := hNx _ q9
          obtain ⟨J1, J2, J3⟩ := fin I9
          exact seg_again rfl (ihm m' hm' (i + 1) s₀ s9 H9 (by omega) w' J1 J2 J3)
        | true =>
          simp only [if_true] at q9 ⊢
          have hy : ∀ v, yieldOut cenv v = yieldValue v := fun v => by simp only [yieldOut, hco, Bool.false_eq_true, if_false]
          simp only [hy]
          rw [Sem.bind_eq_wrap', Sem.bind_eq_wrap', Sem.wrap_wrap, Sem.wrap_wrap]
          refine seg_wrap ?_
          rw [hA]
          refine thnF (pe.run _ s9 σ8 H9 _ I9 q9) fun z s10 ⟨yv, H10, I10, r10, zb, ez, q10⟩ => ?_
          subst ez
          have ez : z = Value.bool zb := r10
          subst ez
          refine seg_at (seg_yield rfl rfl rfl ⟨zb, rfl, hgo _ (I10.pin (a, go) (List.mem_append_left _ List.mem_cons_self)).1, I10.nolimit, I10.bare, ?_⟩)
          by_cases hz : zb = c
          · rw [if_pos hz] at q10 ⊢
            exact ⟨H10, back I10, q10⟩
          · rw [if_neg hz] at q10 ⊢
            intro s2 e1 e2 e3
            obtain ⟨m', hm', w'⟩ := hNx _ q10
            obtain ⟨J1, J2, J3⟩ := fin I10
            refine seg_again rfl (ihn m' (i + 1) s2 s2 H10 (by omega) w' (inv_gens J1 e1 e2 e3) (by rw [e1]; exact J2) J3)
/-- the generator, not begun -/
theorem seg_genS {scope : Scope} {own : List (Str × Nat)} {fp : List Addr} {B : Around} {cenv : Env} {go : Obj} {a it : Addr} {gn : Nat} {elt tg iter : Expr} {ifs : List Expr} {gpos : Pos} {g : TG} {tt : TT} {te : TE} {c : Bool} {Q : VK} {J : It} {tn : Nat → Heap → Prop}
    (hc : X.calm = true) (I : Inv X pins σ H s) (hfp : ∀ b ∈ fp, FpOk X pins H b ∧ b < s.heap.objs.size) (hco : cenv.scope.isCoroutine = false)
    (T : Turn X.prog X.w X.K tg J fp it tn) (D : GBody J g tt te (own.map (·.2)) c σ Q)
    (hgo : ∀ h : Heap, h.get? a = some go → h.IsGen a gn) (hsa : s.heap.objs.size ≤ a)
    (pg : PG (gbx X (B.over (.compLoop (genX elt tg iter ifs scope gpos) 0 (.ref it) .none cenv) []) s H scope cenv fp [(a, go)]) tg g)
    (pt : PTs (gbx X (B.over (.compLoop (genX elt tg iter ifs scope gpos) 0 (.ref it) .none cenv) []) s H scope cenv fp [(a, go)]) ifs tt)
    (pe : PE (gbx X (B.over (.compLoop (genX elt tg iter ifs scope gpos) 0 (.ref it) .none cenv) []) s H scope cenv fp [(a, go)]) elt te)
    {m : Nat} {s₀ s5 : Shared} {H5 : Hp} (w5 : D.W 0 m H5) (I5 : Inv (gbx X (B.over (.compLoop (genX elt tg iter ifs scope gpos) 0 (.ref it) .none cenv) []) s H scope cenv fp [(a, go)]) [] (wipe σ (own.map (·.2))) H5 s5) (st5 : tn 0 s5.heap) (n5 : ∀ b ∈ fp, H5 b = none) :
    Seg (model X.prog X.w) B (GEnd X pins σ c Q) (GItem X pins σ c Q a gn) (m + 1) s₀ (.compStart (genX elt tg iter ifs scope gpos) 0 (.ref it) .none cenv)
        ((model X.prog X.w).den (.compStart (genX elt tg iter ifs scope gpos) 0 (.ref it) .none cenv)) [] s5 := by
  have loop := seg_gen hc I hfp hco T D hgo hsa pg pt pe (m + 1) m 0 s₀ s5 H5 (Nat.lt_succ_self _) w5 I5 st5 n5
  show Seg _ B _ _ _ s₀ _ ((compStart (genX elt tg iter ifs scope gpos) 0 (.ref it) .none cenv).onRaise (leaving cenv)) [] s5
  unfold compStart
  rw [Sem.onRaise_eq_wrap]
  show Seg _ B _ _ _ s₀ _ ((ask >>= _).wrap _ _ _ _) [] s5
  refine seg_bind_wrap (wpAny_askSetting ?_)
  split
  · exact seg_again rfl loop
  · first
      | exact seg_bind_wrap (wpAny_rule (seg_bind_wrap (wpAny_standAt (seg_bind_wrap (T.self _ 0 s5 _ _ st5 (seg_again rfl loop))))))
      | (refine seg_bind_wrap (wpAny_rule ?_); show Seg _ B _ _ _ s₀ _ ((standAt iter.pos >>= _).wrap _ _ _ _) [] s5; exact seg_bind_wrap (wpAny_standAt (seg_bind_wrap (T.self _ 0 s5 _ _ st5 (seg_again rfl loop)))))
/-- all: on until a test is False -/
theorem all_loop {Q : VK} {a : Addr} {gn : Nat} {R : Result → Shared → Prop} (hh : X.A.handled = none) (hroom : X.A.depth < recursionLimit)
    (hR : ∀ b s', (∃ H', Inv X pins σ H' s' ∧ Q (.bl b) H') → R (.ok (.ret (.bool b))) s') :
    ∀ (n : Nat) (s5 : Shared), s5.heap.IsGen a gn → s5.heap.NoLimit → (∃ gs, s5.gens[gn]? = some gs ∧ gs.Goes (model X.prog X.w) X.A.in1.in1 (GEnd X pins σ false Q) (GItem X pins σ false Q a gn) n (.send .none) (s5.setGen gn .running)) →
      codeAny (model X.prog X.w) X.A (.builtin "all.loop" ⟨[.ref a], []⟩) R s5 := by
  intro n
  induction n with
  | zero =>
    intro s5 hg hl ⟨gs, hgs, hgo⟩
    refine codeAny_builtin F.entry_all_loop ?_
    rw [Around.under_plainId F.plain_all_loop _]
    show wpAny _ X.A.in1 (pyNext (.ref a) >>= _) _ _ s5
    refine wpAny_bind (wpAny_pyNext_genexpQ (A := X.A.in1) (P := fun _ _ s₁ => ∃ H', Inv X pins σ H' s₁ ∧ Q (.bl true) H') hh hl hroom hg hgs hgo (fun v s₁ gs' hb hv => ?_) (fun s₁ hp h' hk => ?_))
    · obtain ⟨z, rfl, h1, h2, h3, hz⟩ := hv
      refine wpAny_bind (wpAny_holding (wpAny_truthy_bool ?_))
      refine wpAny_bind (wpAny_letGo ?_)
      cases z with
      | false =>
        simp only [if_true, Bool.false_eq_true, if_false] at hz ⊢
        obtain ⟨H', I', q⟩ := hz
        exact wpAny_bind (wpAny_rule (wpAny_pure (hR _ _ ⟨H', inv_gens I' rfl rfl (allBare_setGen h3 hb), q⟩)))
      | true =>
        rw [if_neg (by decide)] at hz
        exact (hz s₁ rfl rfl h3).elim
    · refine wpAny_bind (wpAny_rule (wpAny_pure ?_))
      obtain ⟨H', I', q⟩ := hp
      exact hR true _ ⟨H', inv_grown I' hk rfl (allBare_setGen I'.bare rfl), q⟩
  | succ n ih =>
    intro s5 hg hl ⟨gs, hgs, hgo⟩
    have hgl : gn < s5.gens.size := (Array.getElem?_eq_some_iff.mp hgs).1
    refine codeAny_builtin F.entry_all_loop ?_
    rw [Around.under_plainId F.plain_all_loop _]
    show wpAny _ X.A.in1 (pyNext (.ref a) >>= _) _ _ s5
    refine wpAny_bind (wpAny_gsz (n := gn + 1) hgl (wpAny_pyNext_genexpQ (A := X.A.in1) (P := fun _ _ s₁ => ∃ H', Inv X pins σ H' s₁ ∧ Q (.bl true) H') hh hl hroom hg hgs hgo (fun v s₁ gs' hb hv => ?_) (fun s₁ hp h' hk => ?_)))
    · intro hsz
      obtain ⟨z, rfl, h1, h2, h3, hz⟩ := hv
      refine wpAny_bind (wpAny_holding (wpAny_truthy_bool ?_))
      refine wpAny_bind (wpAny_letGo ?_)
      cases z with
      | false =>
        simp only [if_true, Bool.false_eq_true, if_false] at hz ⊢
        obtain ⟨H', I', q⟩ := hz
        exact wpAny_bind (wpAny_rule (wpAny_pure (hR _ _ ⟨H', inv_gens I' rfl rfl (allBare_setGen h3 hb), q⟩)))
      | true =>
        rw [if_neg (by decide)] at hz
        simp only [if_true]
        have hsz1 : gn < s₁.gens.size := by
          have q : (s₁.setGen gn gs').gens.size = s₁.gens.size := setGen_size _ _ _
          have hsz' : gn + 1 ≤ (s₁.setGen gn gs').gens.size := hsz
          omega
        exact wpAny_pure ⟨plainId_quiet F.plain_all_loop _, ih _ h1 h2 ⟨gs', setGen_at hsz1, hz _ rfl rfl (allBare_setGen (s := s₁.setGen gn gs') (allBare_setGen h3 hb) rfl)⟩⟩
    · intro _
      refine wpAny_bind (wpAny_rule (wpAny_pure ?_))
      obtain ⟨H', I', q⟩ := hp
      exact hR true _ ⟨H', inv_grown I' hk rfl (allBare_setGen I'.bare rfl), q⟩
/-- any: on until a test is True -/
theorem any_loop {Q : VK} {a : Addr} {gn : Nat} {R : Result → Shared → Prop} (hh : X.A.handled = none) (hroom : X.A.depth < recursionLimit)
    (hR : ∀ b s', (∃ H', Inv X pins σ H' s' ∧ Q (.bl b) H') → R (.ok (.ret (.bool b))) s') :
    ∀ (n : Nat) (s5 : Shared), s5.heap.IsGen a gn → s5.heap.NoLimit → (∃ gs, s5.gens[gn]? = some gs ∧ gs.Goes (model X.prog X.w) X.A.in1.in1 (GEnd X pins σ true Q) (GItem X pins σ true Q a gn) n (.send .none) (s5.setGen gn .running)) →
      codeAny (model X.prog X.w) X.A (.builtin "any.loop" ⟨[.ref a], []⟩) R s5 := by
  intro n
  induction n with
  | zero =>
    intro s5 hg hl ⟨gs, hgs, hgo⟩
    refine codeAny_builtin F.entry_any_loop ?_
    rw [Around.under_plainId F.plain_any_loop _]
    show wpAny _ X.A.in1 (pyNext (.ref a) >>= _) _ _ s5
    refine wpAny_bind (wpAny_pyNext_genexpQ (A := X.A.in1) (P := fun _ _ s₁ => ∃ H', Inv X pins σ H' s₁ ∧ Q (.bl false) H') hh hl hroom hg hgs hgo (fun v s₁ gs' hb hv => ?_) (fun s₁ hp h' hk => ?_))
    · obtain ⟨z, rfl, h1, h2, h3, hz⟩ := hv
      refine wpAny_bind (wpAny_holding (wpAny_truthy_bool ?_))
      refine wpAny_bind (wpAny_letGo ?_)
      cases z with
      | true =>
        simp only [if_true] at hz ⊢
        obtain ⟨H', I', q⟩ := hz
        exact wpAny_bind (wpAny_rule (wpAny_pure (hR _ _ ⟨H', inv_gens I' rfl rfl (allBare_setGen h3 hb), q⟩)))
      | false =>
        rw [if_neg (by decide)] at hz
        exact (hz s₁ rfl rfl h3).elim
    · refine wpAny_bind (wpAny_rule (wpAny_pure ?_))
      obtain ⟨H', I', q⟩ := hp
      exact hR false _ ⟨H', inv_grown I' hk rfl (allBare_setGen I'.bare rfl), q⟩
  | succ n ih =>
    intro s5 hg hl ⟨gs, hgs, hgo⟩
    have hgl : gn < s5.gens.size := (Array.getElem?_eq_some_iff.mp hgs).1
    refine codeAny_builtin F.entry_any_loop ?_
    rw [Around.under_plainId F.plain_any_loop _]
    show wpAny _ X.A.in1 (pyNext (.ref a) >>= _) _ _ s5
    refine wpAny_bind (wpAny_gsz (n := gn + 1) hgl (wpAny_pyNext_genexpQ (A := X.A.in1) (P := fun _ _ s₁ => ∃ H', Inv X pins σ H' s₁ ∧ Q (.bl false) H') hh hl hroom hg hgs hgo (fun v s₁ gs' hb hv => ?_) (fun s₁ hp h' hk => ?_)))
    · intro hsz
      obtain ⟨z, rfl, h1, h2, h3, hz⟩ := hv
      refine wpAny_bind (wpAny_holding (wpAny_truthy_bool ?_))
      refine wpAny_bind (wpAny_letGo ?_)
      cases z with
      | true =>
        simp only [if_true] at hz ⊢
        obtain ⟨H', I', q⟩ := hz
        exact wpAny_bind (wpAny_rule (wpAny_pure (hR _ _ ⟨H', inv_gens I' rfl rfl (allBare_setGen h3 hb), q⟩)))
      | false =>
        rw [if_neg (by decide)] at hz
        simp only [Bool.false_eq_true, if_false]
        have hsz1 : gn < s₁.gens.size := by
          have q : (s₁.setGen gn gs').gens.size = s₁.gens.size := setGen_size _ _ _
          have hsz' : gn + 1 ≤ (s₁.setGen gn gs').gens.size := hsz
          omega
        exact wpAny_pure ⟨plainId_quiet F.plain_any_loop _, ih _ h1 h2 ⟨gs', setGen_at hsz1, hz _ rfl rfl (allBare_setGen (s := s₁.setGen gn gs') (allBare_setGen h3 hb) rfl)⟩⟩
    · intro _
      refine wpAny_bind (wpAny_rule (wpAny_pure ?_))
      obtain ⟨H', I', q⟩ := hp
      exact hR false _ ⟨H', inv_grown I' hk rfl (allBare_setGen I'.bare rfl), q⟩
/-- a generator that stands ready, behind its making -/
def GReady (X : Cx) (pins : List (Addr × Obj)) (σ : L2.St) (c : Bool) (Q : VK) (v : Value) (s5 : Shared) : Prop :=
  ∃ (a : Addr) (gn n : Nat), v = .ref a ∧ s5.heap.IsGen a gn ∧ s5.heap.NoLimit ∧ ∃ gs, s5.gens[gn]? = some gs ∧ gs.Goes (model X.prog X.w) X.A.in1.in1 (GEnd X pins σ c Q) (GItem X pins σ c Q a gn) n (.send .none) (s5.setGen gn .running)
theorem call_all_gen {Q : VK} {v : Value} {E : Value → Shared → Prop} {s5 : Shared} (hh : X.A.handled = none) (hroom : X.A.depth < recursionLimit) (h : GReady X pins σ false Q v s5) :
    wpAny (model X.prog X.w) X.A (call (.builtin "all") [v]) (EP X pins σ Q) E s5 := by
  obtain ⟨a, gn, n, rfl, hg, hl, hgs⟩ := h
  refine call_function_tree F.kind_all F.plain_all F.entry_all (F.args_all1 _) ?_
  unfold Builtin.«all»
  refine wpAny_bind (m := oneArg "all" _) (wpAny_pure ?_)
  refine wpAny_bind (wpAny_pyIter_gen hg ?_)
  exact wpAny_pure ⟨plainId_quiet F.plain_all_loop _, all_loop hh hroom (fun b s' ⟨H', I', q⟩ => ⟨.bl b, H', I', rfl, q⟩) n s5 hg hl hgs⟩
theorem call_any_gen {Q : VK} {v : Value} {E : Value → Shared → Prop} {s5 : Shared} (hh : X.A.handled = none) (hroom : X.A.depth < recursionLimit) (h : GReady X pins σ true Q v s5) :
    wpAny (model X.prog X.w) X.A (call (.builtin "any") [v]) (EP X pins σ Q) E s5 := by
  obtain ⟨a, gn, n, rfl, hg, hl, hgs⟩ := h
  refine call_function_tree F.kind_any F.plain_any F.entry_any (F.args_any1 _) ?_
  unfold Builtin.«any»
  refine wpAny_bind (m := oneArg "any" _) (wpAny_pure ?_)
  refine wpAny_bind (wpAny_pyIter_gen hg ?_)
  exact wpAny_pure ⟨plainId_quiet F.plain_any_loop _, any_loop hh hroom (fun b s' ⟨H', I', q⟩ => ⟨.bl b, H', I', rfl, q⟩) n s5 hg hl hgs⟩
/-- a generator expression's own scope -/
structure GSc (scope : Scope) : Prop where
  co : scope.isCoroutine = false
  cell : ∀ y ∈ scope.names, y.2 ≠ .cell
  dot : scope.names.lookup (".0" : Str) = some NameKind.local
/-- a walk of tests, up to the first that is c; the def's table may have grown ahead of it -/
def tQt (c : Bool) (P : Addr) (wi : TI) (g : TG) (tt : TT) (te : TE) (vs : List Nat) : TE := fun σ H Q => wi σ H fun J H1 => GxR.TabG H1 P ∧ ∀ H2, GxR.Tabbed P H1 H2 → ∃ (D : GBody J g tt te vs c σ Q) (m : Nat), D.W 0 m H2
theorem gen_made {cc P : Addr} {elt tg iter : Expr} {ifs : List Expr} {gpos : Pos} {scope : Scope} {own : List (Str × Nat)} {wi : TI} {g : TG} {tt : TT} {te : TE} {k : Nat} {c : Bool} {Q' : Value → Shared → Prop} {Q : VK}
    (hc : X.calm = true) (hN : X.N.Nodup) (hr : Room (k + 1) X.A) (TB : GxR.TabB X.base X.mg cc P) (hcode : X.env.code = .ref cc) (S : GSc scope) (ok : BlkOk X.N X.env.scope scope own) (hi : PI X tg iter wi)
    (hg : ∀ (Ag : Around) (s : Shared) (H : Hp) (C : Addr) (cl : List (Str × Addr)) (code : Value) (fp : List Addr) (pn : List (Addr × Obj)), Room k Ag → PG (gbx X Ag s H scope (genEnv scope cl C code builtinsNs X.env) fp pn) tg g)
    (ht : ∀ (Ag : Around) (s : Shared) (H : Hp) (C : Addr) (cl : List (Str × Addr)) (code : Value) (fp : List Addr) (pn : List (Addr × Obj)), Room k Ag → PTs (gbx X Ag s H scope (genEnv scope cl C code builtinsNs X.env) fp pn) ifs tt)
    (he : ∀ (Ag : Around) (s : Shared) (H : Hp) (C : Addr) (cl : List (Str × Addr)) (code : Value) (fp : List Addr) (pn : List (Addr × Obj)), Room k Ag → PE (gbx X Ag s H scope (genEnv scope cl C code builtinsNs X.env) fp pn) elt te)
    (hs : ∀ v, genFold iter X.env v = pure v) (I : Inv X pins σ H s) (h : tQt c P wi g tt te (own.map (·.2)) σ H Q) (hQ : ∀ v s5, GReady X pins σ c Q v s5 → Q' v s5) :
    wpAny (model X.prog X.w) X.A (eval (genX elt tg iter ifs scope gpos) X.env) Q' X.xe s := by
  have hh := I.ok.hd hc
  have hroom : X.A.depth < recursionLimit := by have := hr.dp; omega
  have hfree : ∀ y ∈ scope.names, y.2 = .free → ∃ c, X.env.cells.lookup y.1 = some c := fun y hy e => by
    rcases ok.free y hy e with k | k
    · exact I.ok.has _ (.inl k)
    · exact I.ok.has _ (.inr k)
  refine wpAny_GeneratorExp_make S.co (closure_ok hfree) S.cell S.dot ok.kind hroom (thn (hi.run pins s σ H _ I h) fun xv s1 hx => thn hx fun itv s2 h2 => ?_) hs
  obtain ⟨it, fp, tn, J, H2, e, I2, T, st2, f2, ⟨ps, hP, htr⟩, q⟩ := h2
  subst e
  refine ⟨I2.nolimit, ?_⟩
  have hPs : s2.heap.get? P = some { cls := .none, data := .fields ps } := I2.hok P _ hP
  have nP : ∀ b ∈ fp, b ≠ P := fun b hb z => by
    have := (f2 b hb).1
    rw [z, hP] at this; cases this
  have cd : PySem.W.CodeHd s2.heap cc P := TB.code.keeps fun b u e => I2.bk b u e
  have cont : ∀ (code : Value) (h3 : Heap) (tk : Nat) (ps' : Array Value), Heap.ExtBut P s2.heap h3 → h3.get? P = some { cls := .none, data := .fields ps' } → (∃ more, ps' = ps ++ more) → TriplesOk ps'.toList →
      wpAny (model X.prog X.w) X.A (builtinsFor X.env.globals X.env.builtins) (fun bi s₄ =>
        ∀ h', h'.Ns s₄.heap.objs.size (fun y => if y = ".0" then some (.ref it) else none) → Heap.SameBut s₄.heap.objs.size (s₄.heap.push { cls := .type "frame", data := .dict #[] }) h' →
          Q' (.ref h'.objs.size) { s₄ with
            gens := s₄.gens.push (.fresh (.compStart (genX elt tg iter ifs scope gpos) 0 (.ref it) .none (genEnv scope (cloFrom X.env.cells scope.names []) s₄.heap.objs.size code bi X.env))),
            toks := s₄.toks + 1 + 1 + 1,
            heap := h'.push { cls := .type "generator", data := .fields #[.int s₄.gens.size 0, .str "<genexpr>" (s₄.toks + 1), .str (X.env.qual ++ "<genexpr>") (s₄.toks + 1 + 1)] } }) X.xe { s2 with heap := h3, toks := tk } := by
    intro code h3 tk ps' hx hP3 hmore ht3
    obtain ⟨more, rfl⟩ := hmore
    obtain ⟨bm, ob, e1, e2, e3, e4, e5, e6, e7, e8⟩ := TB.bm
    have keep3 : ∀ b u, b ≠ P → s2.heap.get? b = some u → h3.get? b = some u := fun b u hb e => hx b u hb e
    have I3 := GxR.inv_tab (more := more) (h' := h3) (g' := s2.gens) (d' := s2.drawn) (t' := tk) I2 hP keep3 hP3 I2.bare
    have f3 : ∀ b ∈ fp, FpOk X pins (upd H2 P (.tbl (ps ++ more))) b := fun b hb => by
      obtain ⟨z0, z⟩ := f2 b hb
      exact ⟨by rw [upd_ne (nP b hb)]; exact z0, z⟩
    have st3 : tn 0 h3 := T.keep _ _ _ st2 fun b hb o e => keep3 b o (nP b hb) e
    obtain ⟨D, m, w0⟩ := q _ ⟨⟨ps ++ more, upd_same, ht3⟩, fun b hb => upd_ne hb⟩
    generalize hs3 : ({ s2 with heap := h3, toks := tk } : Shared) = s3 at I3
    have eh : s3.heap = h3 := by rw [← hs3]
    generalize upd H2 P (.tbl (ps ++ more)) = H3 at I3 f3 w0
    refine wpAny_builtinsFor (m := X.mg) (by rw [I2.ok.glob, eh]; exact (I2.mod.glob.keeps I2.bk).extBut hx TB.gP) e1 e2 (by rw [eh]; exact keep3 _ _ e4 (I2.bk _ _ e5)) e6 e7 e8 ?_
    intro h' hn hsb
    refine hQ _ _ ?_
    have sz : ∀ b ∈ fp, b < s3.heap.objs.size := fun b hb => by
      obtain ⟨o, e, _⟩ := T.obj _ _ st3 b hb
      rw [eh]; exact Heap.lt_size e
    have szh : h'.objs.size = s3.heap.objs.size + 1 := hsb.1.trans (Heap.size_push ..)
    generalize hgo : ({ cls := .type "generator", data := .fields #[.int s3.gens.size 0, .str "<genexpr>" (s3.toks + 1), .str (X.env.qual ++ "<genexpr>") (s3.toks + 1 + 1)] } : Obj) = go
    have hgf : (h'.push go).get? h'.objs.size = some go := by rw [← hgo]; exact Heap.get?_push_size _ rfl
    have hgen : ∀ h : Heap, h.get? h'.objs.size = some go → h.IsGen h'.objs.size s3.gens.size := fun h e => ⟨go, _, _, e, by rw [← hgo], by rw [← hgo], by rw [← hgo]⟩
    have hgd : ∀ v, go.data ≠ .cell v := fun v z => by rw [← hgo] at z; cases z
    generalize hce : genEnv scope (cloFrom X.env.cells scope.names []) s3.heap.objs.size code builtinsNs X.env = cenv
    have kp : ∀ b o, s3.heap.get? b = some o → (h'.push go).get? b = some o := fun b o e => Heap.get?_push_of_some _ (hsb.extBut b o (Nat.ne_of_lt (Heap.lt_size e)) (Heap.get?_push_of_some _ e))
    have rm : Room k (Around.over X.A.in1.in1 (.compLoop (genX elt tg iter ifs scope gpos) 0 (.ref it) .none cenv) []) := ⟨hh, by
      have := hr.dp
      have e : (Around.over X.A.in1.in1 (.compLoop (genX elt tg iter ifs scope gpos) 0 (.ref it) .none cenv) []).depth ≤ X.A.depth + 1 := Nat.le_of_eq rfl
      omega, by
      have := hr.un
      have e : (Around.over X.A.in1.in1 (.compLoop (genX elt tg iter ifs scope gpos) 0 (.ref it) .none cenv) []).units ≤ X.A.units + 5 := Nat.le_of_eq rfl
      omega⟩
    have fr : (Around.over X.A.in1.in1 (.compLoop (genX elt tg iter ifs scope gpos) 0 (.ref it) .none cenv) []).frames = some (cenv :: X.stack) := by
      simp [Around.over, genX, envsOf, pushEnvs, Code.envs, Code.env?, Code.isFrame, I.ok.frames]
    refine ⟨h'.objs.size, s3.gens.size, m + 1, rfl, hgen _ hgf, I3.nolimit.keeps kp, _, Array.getElem?_push_size .., rfl, ?_⟩
    have I5 := gen_start (Ag := Around.over X.A.in1.in1 (.compLoop (genX elt tg iter ifs scope gpos) 0 (.ref it) .none cenv) []) (code := code) (fp := fp) (own := own) (scope := scope)
      (s2 := ({ s3 with gens := s3.gens.push (.fresh (.compStart (genX elt tg iter ifs scope gpos) 0 (.ref it) .none cenv)), toks := s3.toks + 1 + 1 + 1, heap := h'.push go } : Shared).setGen s3.gens.size .running)
      I3 ok hN S.cell (fun b hb => ⟨f3 b hb, sz b hb⟩) hh (by rw [hce]; exact fr) hn hsb rfl rfl (allBare_setGen (AllBare.push I3.bare rfl) rfl) hgd hgf
    rw [hce] at I5
    have pg := hg _ s3 H3 s3.heap.objs.size (cloFrom X.env.cells scope.names []) code fp [(h'.objs.size, go)] rm
    have pt := ht _ s3 H3 s3.heap.objs.size (cloFrom X.env.cells scope.names []) code fp [(h'.objs.size, go)] rm
    have pe := he _ s3 H3 s3.heap.objs.size (cloFrom X.env.cells scope.names []) code fp [(h'.objs.size, go)] rm
    rw [hce] at pg pt pe
    exact seg_genS hc I3 (fun b hb => ⟨f3 b hb, sz b hb⟩) (by rw [← hce]; exact S.co) T D hgen (by omega) pg pt pe w0 I5 (T.keep _ _ _ (by rw [eh]; exact st3) fun b _ o e => kp b o e) fun b hb => (f3 b hb).1
  cases hf : codeAmong gpos ps.toList with
  | none =>
    refine wpAny_genexprCodeX hcode (cd.code hPs htr) (cd.tab hPs) hf fun c' h' tk hx hge hlt hco' _ htab' _ => ?_
    obtain ⟨o1, vs, f1, tf, fl, tg, inF, tx, tt, op, _, _, _, _, _, _, _, _, _, htr', _⟩ := hco'
    exact cont _ h' tk _ hx htab'.2 ⟨_, rfl⟩ htr'
  | some cv =>
    refine wpAny_genexprCode_hit hcode (cd.code hPs htr) hf ?_
    exact cont cv s2.heap s2.toks ps (Heap.ExtBut.refl _ _) hPs ⟨#[], by simp⟩ htr
end
section
variable {X : Cx} {cc P : Addr} {elt tg iter : Expr} {ifs : List Expr} {p pos gpos : Pos} {scope : Scope} {own : List (Str × Nat)} {wi : TI} {g : TG} {tt : TT} {te : TE} {k : Nat}
theorem pe_allG (hc : X.calm = true) (hN : X.N.Nodup) (hr : Room (k + 1) X.A) (hgl : Gl X "all") (hm : X.mg "all" = none) (hb : bootBuiltins "all" = some (.builtin "all")) (TB : GxR.TabB X.base X.mg cc P) (hcode : X.env.code = .ref cc) (S : GSc scope) (ok : BlkOk X.N X.env.scope scope own) (hi : PI X tg iter wi)
    (hg : ∀ (Ag : Around) (s : Shared) (H : Hp) (C : Addr) (cl : List (Str × Addr)) (code : Value) (fp : List Addr) (pn : List (Addr × Obj)), Room k Ag → PG (gbx X Ag s H scope (genEnv scope cl C code builtinsNs X.env) fp pn) tg g)
    (ht : ∀ (Ag : Around) (s : Shared) (H : Hp) (C : Addr) (cl : List (Str × Addr)) (code : Value) (fp : List Addr) (pn : List (Addr × Obj)), Room k Ag → PTs (gbx X Ag s H scope (genEnv scope cl C code builtinsNs X.env) fp pn) ifs tt)
    (he' : ∀ (Ag : Around) (s : Shared) (H : Hp) (C : Addr) (cl : List (Str × Addr)) (code : Value) (fp : List Addr) (pn : List (Addr × Obj)), Room k Ag → PE (gbx X Ag s H scope (genEnv scope cl C code builtinsNs X.env) fp pn) elt te)
    (hs : ∀ v, genFold iter X.env v = pure v) (he : starEach [genX elt tg iter ifs scope gpos] X.env = (false, eval (genX elt tg iter ifs scope gpos) X.env) :: starEach [] X.env) :
    PE X (.Call (.Name "all" p) [genX elt tg iter ifs scope gpos] [] pos) (tQt false P wi g tt te (own.map (·.2))) := by
  refine ⟨fun pins s σ H Q I h => ?_⟩
  refine wpAny_Call_Name_kw (ld_blt I hgl hm hb ?_)
  refine PyProof.Rows.callWith_builtin1 ?_ he (by rfl)
  rw [he]
  show wpAny _ _ (spliced ((false, eval (genX elt tg iter ifs scope gpos) X.env) :: backTo pos (starEach [] X.env))) _ _ s
  refine Calls.spliced_cons (gen_made hc hN hr TB hcode S ok hi hg ht he' hs I h fun v s5 hR => ?_)
  refine Calls.spliced_nil ?_
  exact call_all_gen (I.ok.hd hc) (by have := hr.dp; omega) hR
theorem pe_anyG (hc : X.calm = true) (hN : X.N.Nodup) (hr : Room (k + 1) X.A) (hgl : Gl X "any") (hm : X.mg "any" = none) (hb : bootBuiltins "any" = some (.builtin "any")) (TB : GxR.TabB X.base X.mg cc P) (hcode : X.env.code = .ref cc) (S : GSc scope) (ok : BlkOk X.N X.env.scope scope own) (hi : PI X tg iter wi)
    (hg : ∀ (Ag : Around) (s : Shared) (H : Hp) (C : Addr) (cl : List (Str × Addr)) (code : Value) (fp : List Addr) (pn : List (Addr × Obj)), Room k Ag → PG (gbx X Ag s H scope (genEnv scope cl C code builtinsNs X.env) fp pn) tg g)
    (ht : ∀ (Ag : Around) (s : Shared) (H : Hp) (C : Addr) (cl : List (Str × Addr)) (code : Value) (fp : List Addr) (pn : List (Addr × Obj)), Room k Ag → PTs (gbx X Ag s H scope (genEnv scope cl C code builtinsNs X.env) fp pn) ifs tt)
    (he' : ∀ (Ag : Around) (s : Shared) (H : Hp) (C : Addr) (cl : List (Str × Addr)) (code : Value) (fp : List Addr) (pn : List (Addr × Obj)), Room k Ag → PE (gbx X Ag s H scope (genEnv scope cl C code builtinsNs X.env) fp pn) elt te)
    (hs : ∀ v, genFold iter X.env v = pure v) (he : starEach [genX elt tg iter ifs scope gpos] X.env = (false, eval (genX elt tg iter ifs scope gpos) X.env) :: starEach [] X.env) :
    PE X (.Call (.Name "any" p) [genX elt tg iter ifs scope gpos] [] pos) (tQt true P wi g tt te (own.map (·.2))) := by
  refine ⟨fun pins s σ H Q I h => ?_⟩
  refine wpAny_Call_Name_kw (ld_blt I hgl hm hb ?_)
  refine PyProof.Rows.callWith_builtin1 ?_ he (by rfl)
  rw [he]
  show wpAny _ _ (spliced ((false, eval (genX elt tg iter ifs scope gpos) X.env) :: backTo pos (starEach [] X.env))) _ _ s
  refine Calls.spliced_cons (gen_made hc hN hr TB hcode S ok hi hg ht he' hs I h fun v s5 hR => ?_)
  refine Calls.spliced_nil ?_
  exact call_any_gen (I.ok.hd hc) (by have := hr.dp; omega) hR
end
end FLG

/-! FL13: all, any of a generator expression by data; the end with tables. -/
namespace FL
open PySem PySem.Spec PyProof.Rows L2
section
variable {K : PySem.W.Frag} {L : Lw} {b : Beg} {F F' : Hp} {s : Sl} {σ : L2.St} {H H' : Hp}
/-- the table has grown -/
theorem Rel.tabbed {P : Addr} (R : Rel K L b F s σ H) (hP : P ∈ L.tabs) (t : GxR.Tabbed P H H') : Rel K L b F s σ H' ∧ Kp b H H' := by
  obtain ⟨ps, e, tr⟩ := R.tab P hP
  obtain ⟨⟨ps', e', tr'⟩, same⟩ := t
  have ne : ∀ a o, H a = some o → (∀ ps, o ≠ .tbl ps) → a ≠ P := fun a o h n z => by
    subst z; rw [e] at h; cases h; exact n _ rfl
  have fP : F P = none := by
    cases q : F P with
    | none => rfl
    | some o =>
      have := R.sub P o q
      rw [e] at this; cases this
      exact absurd q (R.ntb P _)
  have kp : Kp b H H' := fun a o h _ n => by rw [same a (ne a o h n)]; exact h
  refine ⟨{ sub := fun a o h => ?_, old := R.old, new := R.new, keep := R.keep.trans kp, live := fun a h => R.live a ?_, drw := fun a h => ?_, tab := fun Q hQ => ?_, ntb := R.ntb, len := R.len, slot := fun i c q => (R.slot i c q).mono (Same.refl F) (fun _ h _ => h) kp, apart := R.apart }, kp⟩
  · have z : a ≠ P := fun z => by subst z; rw [fP] at h; cases h
    rw [same a z]; exact R.sub a o h
  · by_cases z : a = P
    · subst z; rw [e'] at h; cases h
    · rw [← same a z]; exact h
  · obtain ⟨h1, us, ds, h2, h3⟩ := R.drw a h
    exact ⟨h1, us, ds, by rw [same a (ne a _ h2 fun ps z => by cases z)]; exact h2, h3⟩
  · by_cases z : Q = P
    · subst z; exact ⟨ps', e', tr'⟩
    · obtain ⟨qs, h1, h2⟩ := R.tab Q hQ
      exact ⟨qs, by rw [same Q z]; exact h1, h2⟩
end
/-- tests one by one, up to the first that is c -/
def wQtL (stp : Prop → Prop → Bool → Prop) (fin stop : Bool) (wg : Wg) (wt : Wt) (we : We) (vs : List Nat) (ds : List D) : Sl → (Bool → Prop) → Prop := fun s Q => ∃ I : Nat → Prop, I 0 ∧
  (∀ i d, ds[i]? = some d → I i → wg d (wipeS (lkS s) vs) fun s2 => wt s2 (fun c => cond c (we s2 (fun y => match y with | .bool z => stp (Q stop) (I (i + 1)) z | _ => False) fun _ => False) (I (i + 1))) fun _ => False) ∧
  (I ds.length → Q fin)
def stpAll : Prop → Prop → Bool → Prop := fun A B z => cond z B A
def stpAny : Prop → Prop → Bool → Prop := fun A B z => cond z A B
def wAllL := wQtL stpAll true false
def wAnyL := wQtL stpAny false true
def wAll (wl : Wl) (wg : Wg) (wt : Wt) (we : We) (vs : List Nat) : We := fun s Q R => wl s (fun ds => wAllL wg wt we vs ds s fun b => Q (.bool b)) R
def wAny (wl : Wl) (wg : Wg) (wt : Wt) (we : We) (vs : List Nat) : We := fun s Q R => wl s (fun ds => wAnyL wg wt we vs ds s fun b => Q (.bool b)) R
section
variable {X : Cx} {L : Lw} {W : WX} {P : Addr} {vs : List Nat} {g : TG} {wg : Wg} {wi : TI} {tt : TT} {te : TE} {wl : Wl} {wt : Wt} {we : We}
theorem snd_qt {stp : Prop → Prop → Bool → Prop} {c : Bool} (hstp : ∀ A B z, stp A B z → if z = c then A else B) (hP : P ∈ L.tabs) (hi : SndI X.K L W wi wl) (hg : ∃ X' tg, FGc X' L vs tg g wg ∧ X'.K = X.K) (ht : SndT X.K L WF tt wt) (he : Snd X.K L WF te we) :
    Snd X.K L W (FLG.tQt c P wi g tt te vs) (fun s Q R => wl s (fun ds => wQtL stp (!c) c wg wt we vs ds s fun b => Q (.bool b)) R) := by
  obtain ⟨X', tg', hg, hK⟩ := hg
  intro b F s σ H Q R k I h hx kk
  refine hi b F s σ H _ R _ I h hx fun F1 ds J H1 I1 m1 k1 wd q => ⟨I1.tab P hP, fun H2 tb => ?_⟩
  obtain ⟨I2, k2⟩ := I1.tabbed hP tb
  obtain ⟨Iv, i0, ist, ie⟩ := q
  refine ⟨⟨fun i m H3 => m = ds.length - i ∧ i ≤ ds.length ∧ ∃ F3, Rel X.K L b F3 s σ H3 ∧ Same F1 F3 ∧ Kp b H H3 ∧ Iv i, ?_⟩, _, rfl, Nat.zero_le _, F1, I2, Same.refl F1, k1.trans k2, i0⟩
  rintro i m H3 ⟨rfl, hle, F3, I3, m3, k3, iv⟩
  have Ij := I3.inner
  obtain ⟨hgo, hstop, hy⟩ := wd _ F3 _ σ H3 Ij m3 trivial
  by_cases hi : i < ds.length
  · refine .inr ⟨hgo i hi, fun H4 => i + 1 ≤ ds.length ∧ ∃ F4, Rel X.K L b F4 s σ H4 ∧ Same F1 F4 ∧ Kp b H H4 ∧ Iv (i + 1), fun H4 ⟨z1, z2⟩ => ⟨ds.length - (i + 1), by omega, rfl, z1, z2⟩, fun x H4 hyy => ?_⟩
    obtain ⟨F4, d, e4, I4, m4, k4, r4⟩ := hy i x H4 hi hyy
    have q := ist i d e4 iv
    refine hg.only x _ H4 _ _ (hg.snd ⟨H3, F3, b.dr⟩ F4 _ _ H4 x d _ (fun σ' H' => tt σ' H' fun b1 H5 => if b1 = true then te σ' H5 fun y H6 => ∃ z, y = .bl z ∧ if z = c then k (.bl c) H6 else (i + 1 ≤ ds.length ∧ ∃ F4, Rel X.K L b F4 s σ H6 ∧ Same F1 F4 ∧ Kp b H H6 ∧ Iv (i + 1)) else (i + 1 ≤ ds.length ∧ ∃ F4, Rel X.K L b F4 s σ H5 ∧ Same F1 F4 ∧ Kp b H H5 ∧ Iv (i + 1)))
      (by rw [hK]; exact I4.wipe vs) (by rw [hK]; exact r4) q fun F5 s5 σ5 H5 I5 m5 q5 => ?_) fun σ' H' e q => ⟨e.trans (wipe_idem vs fun _ z => z), q⟩
    rw [hK] at I5
    have back : ∀ {F6 : Hp} {s6 : Sl} {σ6 : L2.St} {H6 : Hp}, Rel X.K L ⟨H3, F3, b.dr⟩ F6 s6 σ6 H6 → Rel X.K L b F6 s σ H6 ∧ Kp b H H6 := fun {F6 s6 σ6 H6} I6 => ⟨I3.back I6.toGrd, fun a o e d t => I6.toGrd.keep a o (k3 a o e d t) d t⟩
    refine ht _ F5 s5 σ5 H5 _ (fun _ => False) _ I5 q5 (fun _ _ _ _ _ z => z.elim) fun F6 z6 H6 I6 m6 k6 q6 => ?_
    have m36 : Same F3 F6 := m4.trans (m5.trans m6)
    cases z6 with
    | false =>
      rw [if_neg Bool.false_ne_true]
      exact ⟨hi, F6, (back I6).1, m3.trans m36, (back I6).2, q6⟩
    | true =>
      rw [if_pos rfl]
      refine he _ F6 s5 σ5 H6 _ (fun _ => False) _ I6 q6 (fun _ _ _ _ _ z => z.elim) fun F7 y v H7 I7 m7 k7 r7 q7 => ?_
      split at q7
      · rename_i z
        cases r7
        refine ⟨z, rfl, ?_⟩
        have q8 := hstp _ _ z q7
        by_cases hz : z = c
        · rw [if_pos hz] at q8 ⊢
          exact kk F7 _ _ H7 (back I7).1 (m1.trans (m3.trans (m36.trans m7))) (back I7).2 (.bl c) q8
        · rw [if_neg hz] at q8 ⊢
          exact ⟨hi, F7, (back I7).1, m3.trans (m36.trans m7), (back I7).2, q8⟩
      · exact q7.elim
  · have e : i = ds.length := by omega
    subst e
    exact .inl ⟨hstop, kk F3 _ _ H3 I3 (m1.trans m3) k3 (.bl _) (ie iv)⟩
end
section
variable {X : Cx} {L : Lw} {W : WX} {cc P : Addr} {elt tg iter : Expr} {ifs : List Expr} {p pos gpos : Pos} {scope : Scope} {own : List (Str × Nat)} {g : TG} {wg : Wg} {wi : TI} {tt : TT} {te : TE} {wl : Wl} {wt : Wt} {we : We} {k : Nat}
theorem fe_all (TB : LamX.TabB X.base X.mg cc P) (hcode : X.env.code = .ref cc) (hP : P ∈ L.tabs) (hN : X.N.Nodup) (hr : Room (k + 1) X.A) (hm : X.mg "all" = none) (hb : bootBuiltins "all" = some (.builtin "all")) (hi : FI X L W tg iter wi wl) (S : FLG.GSc scope) (ok : BlkOk X.N X.env.scope scope own)
    (hg : ∀ (Ag : Around) (s : Shared) (H : Hp) (C : Addr) (cl : List (Str × Addr)) (code : Value) (fp : List Addr) (pn : List (Addr × Obj)), Room k Ag → FGc (FLG.gbx X Ag s H scope (genEnv scope cl C code builtinsNs X.env) fp pn) L (own.map (·.2)) tg g wg)
    (ht : ∀ (Ag : Around) (s : Shared) (H : Hp) (C : Addr) (cl : List (Str × Addr)) (code : Value) (fp : List Addr) (pn : List (Addr × Obj)), Room k Ag → FTs (FLG.gbx X Ag s H scope (genEnv scope cl C code builtinsNs X.env) fp pn) L WF ifs tt wt)
    (he : ∀ (Ag : Around) (s : Shared) (H : Hp) (C : Addr) (cl : List (Str × Addr)) (code : Value) (fp : List Addr) (pn : List (Addr × Obj)), Room k Ag → FE (FLG.gbx X Ag s H scope (genEnv scope cl C code builtinsNs X.env) fp pn) L WF elt te we)
    (hc : X.calm = true := by rfl) (hgl : Gl X "all" := by rfl) (hs : ∀ v, genFold iter X.env v = pure v := by intro _; rfl) (hst : starEach [FLG.genX elt tg iter ifs scope gpos] X.env = (false, eval (FLG.genX elt tg iter ifs scope gpos) X.env) :: starEach [] X.env := by rfl) :
    FE X L W (.Call (.Name "all" p) [.GeneratorExp elt [⟨tg, iter, ifs, 0⟩] scope gpos] [] pos) (FLG.tQt false P wi g tt te (own.map (·.2))) (wAll wl wg wt we (own.map (·.2))) := by
  have rm : ∃ Ag, Room k Ag := ⟨X.A, hr.mono (Nat.le_succ k)⟩
  obtain ⟨Ag, rm⟩ := rm
  exact ⟨FLG.pe_allG hc hN hr hgl hm hb ⟨TB.code, TB.bm, TB.gP⟩ hcode S ok hi.pe (fun Ag s H C cl code fp pn r => (hg Ag s H C cl code fp pn r).pe) (fun Ag s H C cl code fp pn r => (ht Ag s H C cl code fp pn r).pe) (fun Ag s H C cl code fp pn r => (he Ag s H C cl code fp pn r).pe) hs hst,
    snd_qt (c := false) (stp := stpAll) (fun A B z q => by cases z <;> simpa [stpAll] using q) hP hi.snd ⟨_, _, hg Ag X.s_0 X.H_0 0 [] .none [] [] rm, rfl⟩ (ht Ag X.s_0 X.H_0 0 [] .none [] [] rm).snd (he Ag X.s_0 X.H_0 0 [] .none [] [] rm).snd⟩
theorem fe_any (TB : LamX.TabB X.base X.mg cc P) (hcode : X.env.code = .ref cc) (hP : P ∈ L.tabs) (hN : X.N.Nodup) (hr : Room (k + 1) X.A) (hm : X.mg "any" = none) (hb : bootBuiltins "any" = some (.builtin "any")) (hi : FI X L W tg iter wi wl) (S : FLG.GSc scope) (ok : BlkOk X.N X.env.scope scope own)
    (hg : ∀ (Ag : Around) (s : Shared) (H : Hp) (C : Addr) (cl : List (Str × Addr)) (code : Value) (fp : List Addr) (pn : List (Addr × Obj)), Room k Ag → FGc (FLG.gbx X Ag s H scope (genEnv scope cl C code builtinsNs X.env) fp pn) L (own.map (·.2)) tg g wg)
    (ht : ∀ (Ag : Around) (s : Shared) (H : Hp) (C : Addr) (cl : List (Str × Addr)) (code : Value) (fp : List Addr) (pn : List (Addr × Obj)), Room k Ag → FTs (FLG.gbx X Ag s H scope (genEnv scope cl C code builtinsNs X.env) fp pn) L WF ifs tt wt)
    (he : ∀ (Ag : Around) (s : Shared) (H : Hp) (C : Addr) (cl : List (Str × Addr)) (code : Value) (fp : List Addr) (pn : List (Addr × Obj)), Room k Ag → FE (FLG.gbx X Ag s H scope (genEnv scope cl C code builtinsNs X.env) fp pn) L WF elt te we)
    (hc : X.calm = true := by rfl) (hgl : Gl X "any" := by rfl) (hs : ∀ v, genFold iter X.env v = pure v := by intro _; rfl) (hst : starEach [FLG.genX elt tg iter ifs scope gpos] X.env = (false, eval (FLG.genX elt tg iter ifs scope gpos) X.env) :: starEach [] X.env := by rfl) :
    FE X L W (.Call (.Name "any" p) [.GeneratorExp elt [⟨tg, iter, ifs, 0⟩] scope gpos] [] pos) (FLG.tQt true P wi g tt te (own.map (·.2))) (wAny wl wg wt we (own.map (·.2))) := by
  have rm : ∃ Ag, Room k Ag := ⟨X.A, hr.mono (Nat.le_succ k)⟩
  obtain ⟨Ag, rm⟩ := rm
  exact ⟨FLG.pe_anyG hc hN hr hgl hm hb ⟨TB.code, TB.bm, TB.gP⟩ hcode S ok hi.pe (fun Ag s H C cl code fp pn r => (hg Ag s H C cl code fp pn r).pe) (fun Ag s H C cl code fp pn r => (ht Ag s H C cl code fp pn r).pe) (fun Ag s H C cl code fp pn r => (he Ag s H C cl code fp pn r).pe) hs hst,
    snd_qt (c := true) (stp := stpAny) (fun A B z q => by cases z <;> simpa [stpAny] using q) hP hi.snd ⟨_, _, hg Ag X.s_0 X.H_0 0 [] .none [] [] rm, rfl⟩ (ht Ag X.s_0 X.H_0 0 [] .none [] [] rm).snd (he Ag X.s_0 X.H_0 0 [] .none [] [] rm).snd⟩
end
/-! ### plain forms -/
section
variable {wg : Wg} {wt : Wt} {we : We} {vs : List Nat} {ds : List D} {s : Sl}
/-- each test told by p -/
theorem all_by {Q : Bool → Prop} (p : D → Bool) (h : ∀ d ∈ ds, ∀ (A B : Prop), (p d = false → A) → (p d = true → B) → wg d (wipeS (lkS s) vs) fun s2 => wt s2 (fun c => cond c (we s2 (fun y => match y with | .bool z => cond z B A | _ => False) fun _ => False) B) fun _ => False)
    (hq : Q (ds.all p)) : wAllL wg wt we vs ds s Q := by
  refine ⟨fun i => ∀ d ∈ ds.take i, p d = true, by simp, fun i d e iv => ?_, fun iv => ?_⟩
  · refine h d (List.mem_of_getElem? e) _ _ (fun z => ?_) fun z => ?_
    · have : ds.all p = false := by
        rw [List.all_eq_false]
        exact ⟨d, List.mem_of_getElem? e, by rw [z]; decide⟩
      rw [this] at hq; exact hq
    · intro d' hd
      have hi := (List.getElem?_eq_some_iff.mp e).1
      rw [List.take_succ, e] at hd
      rcases List.mem_append.mp hd with hd | hd
      · exact iv d' hd
      · have : d' = d := by simpa using hd
        subst this; exact z
  · replace iv := iv
    dsimp only at iv
    rw [List.take_length] at iv
    have : ds.all p = true := List.all_eq_true.mpr iv
    rw [this] at hq; exact hq
theorem any_by {Q : Bool → Prop} (p : D → Bool) (h : ∀ d ∈ ds, ∀ (A B : Prop), (p d = true → A) → (p d = false → B) → wg d (wipeS (lkS s) vs) fun s2 => wt s2 (fun c => cond c (we s2 (fun y => match y with | .bool z => cond z A B | _ => False) fun _ => False) B) fun _ => False)
    (hq : Q (ds.any p)) : wAnyL wg wt we vs ds s Q := by
  refine ⟨fun i => ∀ d ∈ ds.take i, p d = false, by simp, fun i d e iv => ?_, fun iv => ?_⟩
  · refine h d (List.mem_of_getElem? e) _ _ (fun z => ?_) fun z => ?_
    · have : ds.any p = true := by
        rw [List.any_eq_true]
        exact ⟨d, List.mem_of_getElem? e, z⟩
      rw [this] at hq; exact hq
    · intro d' hd
      rw [List.take_succ, e] at hd
      rcases List.mem_append.mp hd with hd | hd
      · exact iv d' hd
      · have : d' = d := by simpa using hd
        subst this; exact z
  · replace iv := iv
    dsimp only at iv
    rw [List.take_length] at iv
    have : ds.any p = false := by
      rw [List.any_eq_false]
      intro d hd; rw [iv d hd]; decide
    rw [this] at hq; exact hq
/-- each item gives one or none -/
theorem lc_fm {Q : List D → Prop} (f : D → Option D) (hl : ds.length ≤ sizeLine)
    (h : ∀ d ∈ ds, ∀ (acc : List D) (J : List D → Prop), (f d = none → J acc) → (∀ y, f d = some y → acc.length < sizeLine ∧ J (acc ++ [y])) → wg d (wipeS (lkS s) vs) fun s2 => wt s2 (fun c => cond c (we s2 (fun y => acc.length < sizeLine ∧ J (acc ++ [y])) fun _ => False) (J acc)) fun _ => False)
    (hq : Q (ds.filterMap f)) : wLcL wg wt we vs ds s Q := by
  refine ⟨fun i acc => acc = (ds.take i).filterMap f, by simp, fun i d acc e iv => ?_, fun acc iv => ?_⟩
  · have hi := (List.getElem?_eq_some_iff.mp e).1
    refine h d (List.mem_of_getElem? e) acc (fun a => a = (ds.take (i + 1)).filterMap f) (fun z => ?_) fun y z => ⟨?_, ?_⟩
    · rw [List.take_succ, e, iv]; simp [z]
    · rw [iv]
      refine Nat.lt_of_le_of_lt (List.length_filterMap_le _ _) ?_
      rw [List.length_take]; omega
    · rw [List.take_succ, e, iv]; simp [z]
  · dsimp only at iv
    rw [List.take_length] at iv
    rw [iv]; exact hq
theorem lc_map {Q : List D → Prop} (f : D → D) (hl : ds.length ≤ sizeLine)
    (h : ∀ d ∈ ds, ∀ (acc : List D) (J : List D → Prop), acc.length < sizeLine ∧ J (acc ++ [f d]) → wg d (wipeS (lkS s) vs) fun s2 => wt s2 (fun c => cond c (we s2 (fun y => acc.length < sizeLine ∧ J (acc ++ [y])) fun _ => False) (J acc)) fun _ => False)
    (hq : Q (ds.map f)) : wLcL wg wt we vs ds s Q :=
  lc_fm (fun d => some (f d)) hl (fun d hd acc J _ h2 => h d hd acc J (h2 _ rfl)) (by rw [← List.filterMap_eq_map] at hq; exact hq)
theorem lc_filter {Q : List D → Prop} (p : D → Bool) (hl : ds.length ≤ sizeLine)
    (h : ∀ d ∈ ds, ∀ (acc : List D) (J : List D → Prop), (p d = false → J acc) → (p d = true → acc.length < sizeLine ∧ J (acc ++ [d])) → wg d (wipeS (lkS s) vs) fun s2 => wt s2 (fun c => cond c (we s2 (fun y => acc.length < sizeLine ∧ J (acc ++ [y])) fun _ => False) (J acc)) fun _ => False)
    (hq : Q (ds.filter p)) : wLcL wg wt we vs ds s Q := by
  refine lc_fm (fun d => if p d = true then some d else none) hl (fun d hd acc J h1 h2 => h d hd acc J (fun z => h1 (by simp [z])) fun z => h2 d (by simp [z])) ?_
  rw [show ds.filterMap (fun d => if p d = true then some d else none) = ds.filter p from by rw [← List.filterMap_eq_filter]; rfl]
  exact hq
end
section
variable {c : Cel} {s : Sl} {Q : D → Prop} {R : Value → Prop}
theorem u_wipe0 {s : Sl} : wipeS s [] = s := rfl
theorem u_wipe1 {s : Sl} {v : Nat} {vs : List Nat} : wipeS s (v :: vs) = (wipeS s vs).set v .no := rfl
theorem u_lk0 : lkS [] = [] := rfl
theorem u_lk1 : lkS (c :: s) = lkC c :: lkS s := rfl
end
/-- the end, its tables told by what the top has left -/
theorem walk_ofTt {l : PySem.W.OpenLaw} {n k : Nat} {q : Program} {loose : List Str} {XP : (Str → Option Value) → Heap → Prop} {YP : World → Heap → Prop} {d : DefRec} {K : Params → PySem.W.Frag} {CX : World → CXT} {x : Str}
    (hn : l.most = some n) (hn2 : n ≤ sizeLine) (hdf : d.params.defaults = []) (hr : Room k callerA) (hY : ∀ (w : World) (h : Heap), YP w h → (K w.params).In h)
    (F : ∀ (w : World) (mg mb : Str → Option Value) (fa : Addr) (h : Heap) (mean : ExcName → Option Value), YP w h → (K w.params).In h → Top q (PySem.W.looseW q loose) mean mg mb h → h.Ns mainGlobals mg → mg d.name = some (.ref fa) → LamX.LawAtS l w (K w.params) (CX w) k n x mg fa h)
    (hCX : ∀ (w : World) (H : Hp) (s : Shared) (e : Value) (s' : Shared), CX w [] H s (fun _ _ _ => False) e s' → False) :
    PySem.W.WalkO q loose XP YP l.row.toRowW d [] (fun f vs => PySem.call f vs) := by
  refine Att.attach_callB hn hdf fun w s₀ s₁ mg mb fa o pm cd doc a vs ns G Y ho hd hcd hmg hobj hints hlen hbits hg => ?_
  have KX := hY w _ Y
  obtain ⟨fd, cs, sp, hT, nT, C, hb, hsp, hF⟩ := F w mg mb fa _ _ Y KX G.T G.T.g hmg
  exact LamX.law_callTs KX G.T.g G.T.b G.T.builtins G.T.nolimit hg hT nT C G.T.bmain hobj hints (Nat.le_trans hlen hn2) hr hF hb (fun H hH hS => hsp H a ns hlen hbits hH hS) fun H e s' => hCX w H s₁ e s'
end FL

/-! FL14: slices, repetition, in, sums, stars, items written. -/
namespace FL
open PySem PySem.Spec PyProof.Rows L2
/-! ### slices -/
abbrev Wo := Sl → (Option Int → Prop) → (Value → Prop) → Prop
structure FO (X : Cx) (L : Lw) (W : WX) (e : Option Expr) (t : TO) (w : Wo) : Prop where
  pe : PO X e t
  snd : ∀ (b : Beg) (F : Hp) (s : Sl) (σ : L2.St) (H : Hp) (Q : Option Int → Prop) (R : Value → Prop) (k : Option Int → Hp → Prop), Rel X.K L b F s σ H → w s Q R → Exw X.K L W b F s σ R →
    (∀ F' o H', Rel X.K L b F' s σ H' → Same F F' → Kp b H H' → Q o → k o H') → t σ H k
def wO0 : Wo := fun _ Q _ => Q none
def wO1 (wa : We) : Wo := fun s Q R => wa s (fun d => match d with | .int i => Q (some i) | _ => False) R
def cutL {α : Type} (xs : List α) (lo hi : Option Int) : List α := (xs.drop (HT.sIx xs.length 0 lo)).take (HT.sIx xs.length xs.length hi - HT.sIx xs.length 0 lo)
def dSl : D → Option Int → Option Int → (D → Prop) → Prop := fun d lo hi Q => match d with
  | .list ds => Q (.list (cutL ds lo hi))
  | .tuple ds => Q (.tuple (cutL ds lo hi))
  | .str z => z.length ≤ sizeLine ∧ Q (.str (cutS z lo hi))
  | _ => False
def wSl (wa : We) (wl wh : Wo) : We := fun s Q R => wa s (fun d => wl s (fun lo => wh s (fun hi => dSl d lo hi Q) R) R) R
def wSlN (wa : We) (wl wh : Wo) : Wl := fun s Q R => wa s (fun d => wl s (fun lo => wh s (fun hi => match d with | .list ds => Q (cutL ds lo hi) | _ => False) R) R) R
abbrev rSlD (K : PySem.W.Frag) : V → Option Int → Option Int → Hp → VK → Prop := fun x lo hi H Q => rSlL K x lo hi H Q ∨ (rSlA K x lo hi H Q ∨ rSlS x lo hi H Q)
theorem cutL_le {α : Type} (xs : List α) (lo hi : Option Int) : (cutL xs lo hi).length ≤ xs.length := by
  unfold cutL
  rw [List.length_take, List.length_drop]
  omega
section
variable {X : Cx} {L : Lw} {W : WX} {pos p p2 : Pos} {a c e : Expr} {ta tb te : TE} {wa wb we : We} {lo hi : Option Expr} {tl th : TO} {ol oh : Wo} {es : List Expr} {t : TA} {wl : Wl}
theorem fo_none : FO X L W none tNoPart wO0 := ⟨po_none, fun b F s σ H Q R k I h hx kk => kk F none H I (Same.refl F) Kp.refl h⟩
theorem fo_some (h : FE X L W a ta wa) : FO X L W (some a) (tPart ta) (wO1 wa) := by
  refine ⟨po_some h.pe, fun b F s σ H Q R k I q hx kk => ?_⟩
  refine h.snd b F s σ H _ R _ I q hx fun F1 d v H1 I1 m1 k1 r1 q1 => ?_
  split at q1
  · cases r1
    exact ⟨_, rfl, kk F1 _ H1 I1 m1 k1 q1⟩
  · exact q1.elim
theorem dps_cut {K : PySem.W.Frag} {H : Hp} {vs : List V} {ds : List D} (h : DtAll K H vs ds) (lo hi : Option Int) : DtAll K H (cutV vs lo hi) (cutL ds lo hi) := by
  unfold cutV cutL
  rw [dps_len h]
  exact dps_take _ (dps_drop _ h)
theorem fe_sl (ha : FB X L W a ta wa) (hl : FO X L W lo tl ol) (hh : FO X L W hi th oh) : FE X L W (.Subscript a (.Slice lo hi none p2) pos) (tSl (rSlD X.K) ta tl th) (wSl wa ol oh) := by
  refine ⟨pe_slice (sl_list.or (sl_tupA.or sl_str)) ha.pe hl.pe hh.pe, fun b F s σ H Q R k I h hx kk => ?_⟩
  refine ha.snd b F s σ H _ R _ I h hx fun F1 d v H1 I1 m1 k1 r1 h1 => ?_
  refine hl.snd b F1 s σ H1 _ R _ I1 h1 (hx.mono m1) fun F2 lo H2 I2 m2 k2 h2 => ?_
  refine hh.snd b F2 s σ H2 _ R _ I2 h2 (hx.mono (m1.trans m2)) fun F3 hi H3 I3 m3 k3 h3 => ?_
  have r3 := r1.keep (m2.trans m3) (k2.trans k3)
  have m := m1.trans (m2.trans m3)
  have kp := k1.trans (k2.trans k3)
  unfold dSl at h3
  split at h3
  · rename_i ds
    have lay : ∀ {vs : List V}, DtAll X.K F3 vs ds → ∀ z, H3 z = none → k (.ref z) (upd H3 z (.lst (cutV vs lo hi))) := fun {vs} r z hz =>
      kk _ _ _ _ (I3.new1 hz (fun ps y => by cases y)) (m.trans (same_upd (I3.f_none hz))) (kp.trans (Kp.of (same_upd hz))) (.lst (.inl (.inl upd_same)) (dps_mono (same_upd (I3.f_none hz)) (dps_cut r lo hi))) h3
    rcases r3 with r3 | ⟨x, vs, ds', rfl, e2, e3, e4, e5⟩
    · cases r3 with
      | lst q1 q2 => exact .inl ⟨_, _, rfl, I3.sub.seq q1, lay q2⟩
    · cases e2
      exact .inl ⟨_, _, rfl, .inl (.inl e4), lay e5⟩
  · rename_i ds
    rcases r3 with r3 | ⟨x, vs, ds', rfl, e2, e3, e4, e5⟩
    · cases r3 with
      | tup q1 q2 =>
        rename_i x vs
        refine .inr (.inl ⟨_, _, rfl, same_sqT I3.sub q1, fun e => ?_, fun e z hz => ?_⟩)
        · rw [dps_len q2] at e
          refine kk F3 _ _ H3 I3 m kp (.tup q1 q2) ?_
          have : cutL ds lo hi = ds := by
            unfold cutL
            rw [e.1, e.2, List.drop_zero, Nat.sub_zero, List.take_length]
          rw [this] at h3; exact h3
        · exact kk _ _ _ _ (I3.new1 hz (fun ps y => by cases y)) (m.trans (same_upd (I3.f_none hz))) (kp.trans (Kp.of (same_upd hz))) (.tup (.inl (.inl upd_same)) (dps_mono (same_upd (I3.f_none hz)) (dps_cut q2 lo hi))) h3
    · cases e2
  · rcases r3 with r3 | ⟨x, vs, ds', rfl, e2, e3, e4, e5⟩
    · cases r3
      exact .inr (.inr ⟨_, rfl, h3.1, kk F3 _ _ H3 I3 m kp (.str _) h3.2⟩)
    · cases e2
  · exact h3.elim
theorem fn_sl (ha : FB X L W a ta wa) (hl : FO X L W lo tl ol) (hh : FO X L W hi th oh) : FN X L W (.Subscript a (.Slice lo hi none p2) pos) (tSl (rSlL X.K) ta tl th) (wSlN wa ol oh) := by
  refine ⟨pe_slice sl_list ha.pe hl.pe hh.pe, fun b F s σ H Q R k I h hx kk => ?_⟩
  refine ha.snd b F s σ H _ R _ I h hx fun F1 d v H1 I1 m1 k1 r1 h1 => ?_
  refine hl.snd b F1 s σ H1 _ R _ I1 h1 (hx.mono m1) fun F2 lo H2 I2 m2 k2 h2 => ?_
  refine hh.snd b F2 s σ H2 _ R _ I2 h2 (hx.mono (m1.trans m2)) fun F3 hi H3 I3 m3 k3 h3 => ?_
  have r3 := r1.keep (m2.trans m3) (k2.trans k3)
  split at h3
  · rename_i ds
    have lay : ∀ {vs : List V}, DtAll X.K F3 vs ds → ∀ z, H3 z = none → k (.ref z) (upd H3 z (.lst (cutV vs lo hi))) := fun {vs} r z hz =>
      kk F3 _ z _ _ (I3.lay hz) (m1.trans (m2.trans m3)) ((k1.trans (k2.trans k3)).trans (Kp.of (same_upd hz))) (fresh_at I3 hz) upd_same (dps_cut r lo hi) h3
    rcases r3 with r3 | ⟨x, vs, ds', rfl, e2, e3, e4, e5⟩
    · cases r3 with
      | lst q1 q2 => exact ⟨_, _, rfl, I3.sub.seq q1, lay q2⟩
    · cases e2
      exact ⟨_, _, rfl, .inl (.inl e4), lay e5⟩
  · exact h3.elim
/-! ### [..] * n, (..) * n -/
def wRepN (wl : Wl) (wb : We) : Wl := fun s Q R => wl s (fun ds => wb s (fun y => match y with | .int n => n < 2 ^ 62 ∧ -(2 ^ 62) ≤ n ∧ ds.length * n.toNat ≤ sizeLine ∧ Q (List.replicate n.toNat ds).flatten | _ => False) R) R
theorem dps_rep {K : PySem.W.Frag} {H : Hp} {vs : List V} {ds : List D} (h : DtAll K H vs ds) : ∀ n : Nat, DtAll K H (List.replicate n vs).flatten (List.replicate n ds).flatten
  | 0 => .nil
  | n + 1 => by
    rw [List.replicate_succ, List.replicate_succ, List.flatten_cons, List.flatten_cons]
    exact dps_app h (dps_rep h n)
theorem fn_rep (ha : FN X L W a ta wl) (hb : FE X L W c tb wb) : FN X L W (.BinOp a .Mult c pos) (tOp rRep ta tb) (wRepN wl wb) := by
  refine ⟨pe_op op_rep ha.pe hb.pe, fun b F s σ H Q R k I h hx kk => ?_⟩
  refine ha.snd b F s σ H _ R _ I h hx fun F1 ds q vs H1 I1 m1 k1 fr e1 r1 h1 => ?_
  refine hb.snd b F1 s σ H1 _ R _ I1 h1 (hx.mono m1) fun F2 d2 v2 H2 I2 m2 k2 r2 h2 => ?_
  split at h2
  · cases r2
    have e2 := k2 q _ e1 fr.hd fun ps z => by cases z
    have r3 := dps_mono m2 r1
    refine ⟨q, _, vs, rfl, rfl, e2, by omega, by omega, by rw [dps_len r3]; exact h2.2.2.1, fun z hz => ?_⟩
    exact kk F2 _ z _ _ (I2.lay hz) (m1.trans m2) ((k1.trans k2).trans (Kp.of (same_upd hz))) (fresh_at I2 hz) upd_same (dps_rep r3 _) h2.2.2.2
  · exact h2.elim
def wRepT (wa wb : We) : We := fun s Q R => wa s (fun x => wb s (fun y => match x, y with | .tuple ds, .int n => ds ≠ [] ∧ 2 ≤ n ∧ n ≤ 1000 ∧ ds.length ≤ 1000 ∧ Q (.tuple (List.replicate n.toNat ds).flatten) | _, _ => False) R) R
theorem fe_repT (ha : FE X L W a ta wa) (hb : FE X L W c tb wb) : FE X L W (.BinOp a .Mult c pos) (tOp (rRepT X.K) ta tb) (wRepT wa wb) := by
  refine ⟨pe_op op_repT ha.pe hb.pe, fun b F s σ H Q R k I h hx kk => ?_⟩
  refine ha.snd b F s σ H _ R _ I h hx fun F1 d v H1 I1 m1 k1 r1 h1 => ?_
  refine hb.snd b F1 s σ H1 _ R _ I1 h1 (hx.mono m1) fun F2 d2 v2 H2 I2 m2 k2 r2 h2 => ?_
  split at h2
  · cases r2
    cases r1 with
    | tup q1 q2 =>
      obtain ⟨n0, n1, n2, n3, q⟩ := h2
      have r3 := dps_mono m2 q2
      refine ⟨_, _, _, rfl, rfl, same_sqT I2.sub (same_sqT m2 q1), fun z => n0 ?_, n1, n2, by rw [dps_len r3]; exact n3, fun z hz => ?_⟩
      · have := dps_len r3
        rw [z] at this
        exact List.eq_nil_of_length_eq_zero this.symm
      · exact kk _ _ _ _ (I2.new1 hz (fun ps y => by cases y)) ((m1.trans m2).trans (same_upd (I2.f_none hz))) ((k1.trans k2).trans (Kp.of (same_upd hz))) (.tup (.inl (.inl upd_same)) (dps_mono (same_upd (I2.f_none hz)) (dps_rep r3 _))) q
  · exact h2.elim
/-! ### in, not in -/
/-- among the items of a list, laid as data -/
def inOk (d : D) (ds : List D) : Prop := SeqAt.shaped d = true ∧ SeqAt.shaped (.list ds) = true
def inD (d : D) (ds : List D) : Bool := ds.any fun z => PyData.eqv z d
def flatD : D → Bool
  | .none => true
  | .bool _ => true
  | .int _ => true
  | .str _ => true
  | _ => false
def dIn (f : Bool → Bool) : D → D → (Bool → Prop) → Prop := fun d e Q => match e with
  | .list ds => inOk d ds ∧ Q (f (inD d ds))
  | .tuple ds => (flatD d = true ∧ ds.all flatD = true) ∧ Q (f (inD d ds))
  | _ => False
abbrev rInA (K : PySem.W.Frag) : R2 := fun x y H Q => rInD K x y H Q ∨ rIn K false x y H Q
abbrev rNotInA (K : PySem.W.Frag) : R2 := fun x y H Q => rNotInD K x y H Q ∨ rIn K true x y H Q
theorem op_inA {k : Nat} (hr : Room k X.A) : OpR X (compareOp .In) (rInA X.K) := (op_inD (by have := hr.un; omega)).or op_in_seq
theorem op_notInA {k : Nat} (hr : Room k X.A) : OpR X (compareOp .NotIn) (rNotInA X.K) := (op_notInD (by have := hr.un; omega)).or op_notIn_seq
theorem flat_of {K : PySem.W.Frag} {H : Hp} {x : V} {d : D} (h : Dt K H x d) (f : flatD d = true) : flatV x = true := by
  cases h with
  | lst _ _ => cases f
  | tup _ _ => cases f
  | _ => rfl
theorem eqv_flat {K : PySem.W.Frag} {H : Hp} {x y : V} {d e : D} (hx : Dt K H x d) (hy : Dt K H y e) (fx : flatD d = true) (fy : flatD e = true) : eqV x y = PyData.eqv d e := by
  cases hx with
  | lst _ _ => cases fx
  | tup _ _ => cases fx
  | _ =>
    cases hy with
    | lst _ _ => cases fy
    | tup _ _ => cases fy
    | _ => first | rfl | (rw [PyData.eqv]; rfl) | (simp [PyData.eqv, eqV])
theorem in_flat {K : PySem.W.Frag} {H : Hp} {x : V} {d : D} (hx : Dt K H x d) (fx : flatD d = true) : ∀ {vs : List V} {ds : List D}, DtAll K H vs ds → ds.all flatD = true → vs.all flatV = true ∧ inV x vs = inD d ds
  | _, [], h, _ => by cases h; exact ⟨rfl, rfl⟩
  | _, e :: ds, h, f => by
    cases h with
    | cons h1 h2 =>
      rw [List.all_cons, Bool.and_eq_true] at f
      obtain ⟨g1, g2⟩ := in_flat hx fx h2 f.2
      refine ⟨by rw [List.all_cons, g1, flat_of h1 f.1]; rfl, ?_⟩
      unfold inV inD at g2 ⊢
      rw [List.any_cons, List.any_cons, g2, eqv_flat h1 hx f.1 fx]
theorem snd_in {f : Bool → Bool} {r : R2} (hr : ∀ (H : Hp) (x y : V) (d : D) (ds : List D) (Q : VK), Dt X.K H x d → Dt X.K H y (.list ds) → inOk d ds → Q (.bl (f (inD d ds))) H → r x y H Q)
    (ht : ∀ (H : Hp) (x : V) (a : Addr) (vs : List V) (d : D) (ds : List D) (Q : VK), Dt X.K H x d → SqT X.K H a vs → DtAll X.K H vs ds → flatD d = true → ds.all flatD = true → Q (.bl (f (inD d ds))) H → r x (.ref a) H Q)
    (b : Beg) (F : Hp) (s : Sl) (σ : L2.St) (H : Hp) (x y : V) (d e : D) (Q : Bool → Prop) (k : VK) (I : Rel X.K L b F s σ H) (hx : DpB X.K b F H x d) (hy : DpB X.K b F H y e) (q : dIn f d e Q) (kk : ∀ c, Q c → k (.bl c) H) : r x y H k := by
  unfold dIn at q
  split at q
  · exact hr H x y d _ k (hx.at I.sub) (hy.at I.sub) q.1 (kk _ q.2)
  · have hy' := hy.at I.sub
    cases hy' with
    | tup q1 q2 => exact ht H x _ _ d _ k (hx.at I.sub) q1 q2 q.1.1 q.1.2 (kk _ q.2)
  · exact q.elim
theorem fe_in {k : Nat} (hr : Room k X.A) (ha : FE X L W a ta wa) (hb : FB X L W c tb wb) (hm : behindInMarks .In c = false := by rfl) : FE X L W (.Compare a [.In] [c] pos) (tOp (rInA X.K) ta tb) (wCmpV (dIn fun b => b) wa wb) := by
  refine ⟨pe_cmpR (op_inA hr) ha.pe hb.pe hm, fun b F s σ H Q R k I h hx kk => ?_⟩
  refine ha.snd b F s σ H _ R _ I h hx fun F1 d1 v1 H1 I1 m1 k1 r1 h1 => ?_
  refine hb.snd b F1 s σ H1 _ R _ I1 h1 (hx.mono m1) fun F2 d2 v2 H2 I2 m2 k2 r2 h2 => ?_
  exact snd_in (f := fun b => b) (fun H x y d ds Q h1 h2 h3 q => .inl ⟨d, ds, dt_dp h1, dt_dp h2, h3.1, h3.2, q⟩) (fun H x a vs d ds Q h1 h2 h3 f1 f2 q => .inr ⟨a, vs, rfl, .inr h2, flat_of h1 f1, (in_flat h1 f1 h3 f2).1, by first | (rw [if_neg (by decide), (in_flat h1 f1 h3 f2).2]; exact q) | (rw [if_pos rfl, (in_flat h1 f1 h3 f2).2]; exact q)⟩) b F2 s σ H2 v1 v2 d1 d2 _ k I2 (.inl (dp_mono m2 r1)) r2 h2 fun z q => kk F2 _ _ H2 I2 (m1.trans m2) (k1.trans k2) (.bl z) q
theorem fe_notin {k : Nat} (hr : Room k X.A) (ha : FE X L W a ta wa) (hb : FB X L W c tb wb) (hm : behindInMarks .NotIn c = false := by rfl) : FE X L W (.Compare a [.NotIn] [c] pos) (tOp (rNotInA X.K) ta tb) (wCmpV (dIn fun b => !b) wa wb) := by
  refine ⟨pe_cmpR (op_notInA hr) ha.pe hb.pe hm, fun b F s σ H Q R k I h hx kk => ?_⟩
  refine ha.snd b F s σ H _ R _ I h hx fun F1 d1 v1 H1 I1 m1 k1 r1 h1 => ?_
  refine hb.snd b F1 s σ H1 _ R _ I1 h1 (hx.mono m1) fun F2 d2 v2 H2 I2 m2 k2 r2 h2 => ?_
  exact snd_in (f := fun b => !b) (fun H x y d ds Q h1 h2 h3 q => .inl ⟨d, ds, dt_dp h1, dt_dp h2, h3.1, h3.2, q⟩) (fun H x a vs d ds Q h1 h2 h3 f1 f2 q => .inr ⟨a, vs, rfl, .inr h2, flat_of h1 f1, (in_flat h1 f1 h3 f2).1, by first | (rw [if_neg (by decide), (in_flat h1 f1 h3 f2).2]; exact q) | (rw [if_pos rfl, (in_flat h1 f1 h3 f2).2]; exact q)⟩) b F2 s σ H2 v1 v2 d1 d2 _ k I2 (.inl (dp_mono m2 r1)) r2 h2 fun z q => kk F2 _ _ H2 I2 (m1.trans m2) (k1.trans k2) (.bl z) q
theorem ft_in {k : Nat} (hr : Room k X.A) (ha : FE X L W a ta wa) (hb : FB X L W c tb wb) (hm : behindInMarks .In c = false := by rfl) : FT X L W (.Compare a [.In] [c] pos) (tTest (tOp (rInA X.K) ta tb)) (wCmpT (dIn fun b => b) wa wb) := by
  refine ⟨pt_cmpR (op_inA hr) ha.pe hb.pe hm, fun b F s σ H Q R k I h hx kk => ?_⟩
  refine ha.snd b F s σ H _ R _ I h hx fun F1 d1 v1 H1 I1 m1 k1 r1 h1 => ?_
  refine hb.snd b F1 s σ H1 _ R _ I1 h1 (hx.mono m1) fun F2 d2 v2 H2 I2 m2 k2 r2 h2 => ?_
  exact snd_in (f := fun b => b) (fun H x y d ds Q h1 h2 h3 q => .inl ⟨d, ds, dt_dp h1, dt_dp h2, h3.1, h3.2, q⟩) (fun H x a vs d ds Q h1 h2 h3 f1 f2 q => .inr ⟨a, vs, rfl, .inr h2, flat_of h1 f1, (in_flat h1 f1 h3 f2).1, by first | (rw [if_neg (by decide), (in_flat h1 f1 h3 f2).2]; exact q) | (rw [if_pos rfl, (in_flat h1 f1 h3 f2).2]; exact q)⟩) b F2 s σ H2 v1 v2 d1 d2 _ _ I2 (.inl (dp_mono m2 r1)) r2 h2 fun z q => ⟨z, rfl, kk F2 z H2 I2 (m1.trans m2) (k1.trans k2) q⟩
theorem ft_notin {k : Nat} (hr : Room k X.A) (ha : FE X L W a ta wa) (hb : FB X L W c tb wb) (hm : behindInMarks .NotIn c = false := by rfl) : FT X L W (.Compare a [.NotIn] [c] pos) (tTest (tOp (rNotInA X.K) ta tb)) (wCmpT (dIn fun b => !b) wa wb) := by
  refine ⟨pt_cmpR (op_notInA hr) ha.pe hb.pe hm, fun b F s σ H Q R k I h hx kk => ?_⟩
  refine ha.snd b F s σ H _ R _ I h hx fun F1 d1 v1 H1 I1 m1 k1 r1 h1 => ?_
  refine hb.snd b F1 s σ H1 _ R _ I1 h1 (hx.mono m1) fun F2 d2 v2 H2 I2 m2 k2 r2 h2 => ?_
  exact snd_in (f := fun b => !b) (fun H x y d ds Q h1 h2 h3 q => .inl ⟨d, ds, dt_dp h1, dt_dp h2, h3.1, h3.2, q⟩) (fun H x a vs d ds Q h1 h2 h3 f1 f2 q => .inr ⟨a, vs, rfl, .inr h2, flat_of h1 f1, (in_flat h1 f1 h3 f2).1, by first | (rw [if_neg (by decide), (in_flat h1 f1 h3 f2).2]; exact q) | (rw [if_pos rfl, (in_flat h1 f1 h3 f2).2]; exact q)⟩) b F2 s σ H2 v1 v2 d1 d2 _ _ I2 (.inl (dp_mono m2 r1)) r2 h2 fun z q => ⟨z, rfl, kk F2 z H2 I2 (m1.trans m2) (k1.trans k2) q⟩
/-! ### gcd, sum -/
def dGcd : List D → (D → Prop) → Prop := fun ds Q => match ds with
  | [.int i, .int j] => Q (.int ((Nat.gcd i.natAbs j.natAbs : Nat) : Int))
  | _ => False
theorem fe_gcd {x : Str} (hm : X.mg x = some (.builtin "math.gcd")) (ha : FLs X L W (e :: es) t wl) (hg : Gl X x := by rfl) (hdb : (x == ("__debug__" : Str)) = false := by decide)
    (he : starEach (e :: es) X.env = (false, eval e X.env) :: starEach es X.env := by rfl) (hpl : (backTo pos (starEach es X.env)).any (·.1) = false := by rfl) : FE X L W (.Call (.Name x p) (e :: es) [] pos) (tCB rGcd t) (wCal dGcd wl) := by
  refine ⟨pe_callBfun cr_gcd hg hm ha.pe hdb he hpl, fun b F s σ H Q R k I h hx kk => ?_⟩
  refine ha.snd b F s σ H _ R _ I h hx fun F1 ds vs H1 I1 m1 k1 r1 q => ?_
  unfold dGcd at q
  split at q
  · cases r1 with
    | cons h1 h2 =>
      cases h1
      cases h2 with
      | cons h2 h3 =>
        cases h2
        cases h3
        exact ⟨_, _, rfl, kk F1 _ _ H1 I1 m1 k1 (.int _) q⟩
  · exact q.elim
/-- the ints of a row of ints -/
def intsD : List D → Option (List Int)
  | [] => some []
  | .int i :: ds => (intsD ds).map (i :: ·)
  | _ :: _ => none
theorem intsD_some : ∀ {ds : List D} {ns : List Int}, intsD ds = some ns → ds = ns.map .int
  | [], _, h => by cases h; rfl
  | .int i :: ds, _, h => by
    unfold intsD at h
    cases q : intsD ds with
    | none => rw [q] at h; cases h
    | some ms => rw [q] at h; cases h; rw [List.map_cons, ← intsD_some q]
  | .none :: _, _, h => by cases h
  | .bool _ :: _, _, h => by cases h
  | .str _ :: _, _, h => by cases h
  | .list _ :: _, _, h => by cases h
  | .tuple _ :: _, _, h => by cases h
  | .dict _ :: _, _, h => by cases h
theorem intsD_map : ∀ ns : List Int, intsD (ns.map .int) = some ns
  | [] => rfl
  | n :: ns => by rw [List.map_cons, intsD, intsD_map ns]; rfl
/-- a list of ints, told by them -/
def dIntsL (w : List Int → (D → Prop) → Prop) : D → (D → Prop) → Prop := fun d Q => match d with
  | .list ds => ∃ ns : List Int, ds = ns.map .int ∧ w ns Q
  | _ => False
theorem calb_ints {f : Value} {r : List V → Hp → VK → Prop} {w : List Int → (D → Prop) → Prop} (o : CallR X f r)
    (h : ∀ (F H : Hp) (a : Addr) (ns : List Int) (Q : D → Prop) (k : VK), SqL X.K H a (ns.map V.int) → w ns Q → (∀ c v, (∀ F, Dt X.K F v c) → Q c → k v H) → r [.ref a] H k) : CalB X L f r (dIntsL w) := by
  refine ⟨o, fun b F s σ H v d Q k I hv q kk => ?_⟩
  unfold dIntsL at q
  split at q
  · obtain ⟨ns, rfl, q⟩ := q
    rcases hv with hv | ⟨a, vs, ds', rfl, e2, e3, e4, e5⟩
    · cases hv with
      | lst q1 q2 =>
        have e := dps_ints q2
        subst e
        exact h F H _ ns Q k (I.sub.seq q1) q fun c v r z => kk F c v H I (Same.refl F) Kp.refl (r F) z
    · cases e2
      have e := dps_ints e5
      subst e
      exact h F H _ ns Q k (.inl (.inl e4)) q fun c v r z => kk F c v H I (Same.refl F) Kp.refl (r F) z
  · exact q.elim
theorem cal_sum (hc : X.calm = true := by rfl) : CalB X L (.builtin "sum") (rSum X.K) (dIntsL fun ns Q => Q (.int ns.sum)) :=
  calb_ints (cr_sum hc) fun F H a ns Q k h q kk => ⟨a, ns, rfl, h, kk _ _ (fun _ => .int _) q⟩
def dMaxL : List Int → (D → Prop) → Prop := fun ns Q => 0 < ns.length ∧ ∀ m, m ∈ ns → (∀ y, y ∈ ns → y ≤ m) → Q (.int m)
def dMinL : List Int → (D → Prop) → Prop := fun ns Q => 0 < ns.length ∧ ∀ m, m ∈ ns → (∀ y, y ∈ ns → m ≤ y) → Q (.int m)
theorem cal_max1 (hc : X.calm = true := by rfl) : CalB X L (.builtin "max") (rMax X.K) (dIntsL dMaxL) :=
  calb_ints (cr_max hc) fun F H a ns Q k h q kk => ⟨a, ns, rfl, h, q.1, fun m h1 h2 => kk _ _ (fun _ => .int _) (q.2 m h1 h2)⟩
theorem cal_min1 (hc : X.calm = true := by rfl) : CalB X L (.builtin "min") (rMin X.K) (dIntsL dMinL) :=
  calb_ints (cr_min hc) fun F H a ns Q k h q kk => ⟨a, ns, rfl, h, q.1, fun m h1 h2 => kk _ _ (fun _ => .int _) (q.2 m h1 h2)⟩
/-! ### (*xs, x) -/
def wStar (wa : We) (wr : Wl) : Wl := fun s Q R => wa s (fun d => match d with
  | .list ds => wr s (fun es => Q (ds ++ es)) R
  | .tuple ds => wr s (fun es => Q (ds ++ es)) R
  | _ => False) R
theorem fl_star (ha : FE X L W a ta wa) (hr : FLs X L W es t wl) (hs : starEach (.Starred a p :: es) X.env = (true, eval a X.env) :: starEach es X.env := by rfl) : FLs X L W (.Starred a p :: es) (StX.tStar X.K ta t) (wStar wa wl) := by
  refine ⟨StX.pa_star ha.pe hr.pe hs, fun b F s σ H Q R k I h hx kk => ?_⟩
  refine ha.snd b F s σ H _ R _ I h hx fun F1 d1 v1 H1 I1 m1 k1 r1 h1 => ?_
  split at h1
  · cases r1 with
    | lst q1 q2 => exact ⟨_, _, rfl, .inr (I1.sub.seq q1), hr.snd b F1 s σ H1 _ R _ I1 h1 (hx.mono m1) fun F2 ds vs H2 I2 m2 k2 r2 h2 => kk F2 _ _ H2 I2 (m1.trans m2) (k1.trans k2) (dps_app (dps_mono m2 q2) r2) h2⟩
  · cases r1 with
    | tup q1 q2 => exact ⟨_, _, rfl, .inl (same_sqT I1.sub q1), hr.snd b F1 s σ H1 _ R _ I1 h1 (hx.mono m1) fun F2 ds vs H2 I2 m2 k2 r2 h2 => kk F2 _ _ H2 I2 (m1.trans m2) (k1.trans k2) (dps_app (dps_mono m2 q2) r2) h2⟩
  · exact h1.elim
end
end FL

/-! FL15: items written; draws of the second kind. -/
namespace FL
open PySem PySem.Spec PyProof.Rows L2
section
variable {X : Cx} {L : Lw} {W : WX} {pos p p2 p3 : Pos} {a c e : Expr} {ta tb te : TE} {wa wb we : We} {wl : Wl}
theorem dps_setN {K : PySem.W.Frag} {H : Hp} {vs : List V} {ds : List D} {v : V} {d : D} (h : DtAll K H vs ds) (q : Dt K H v d) (i : Nat) : DtAll K H (vs.set i v) (ds.set i d) := dps_set q i h
/-- xs[i] = v, xs a list of the def's own -/
def wSeti (i : Nat) (wv wi : We) : Ws := fun s E => match s[i]? with
  | some (.ow ds) => wv s (fun d => wi s (fun j => match j with
    | .int j => ∃ n, ixN ds.length j = some n ∧ E.nx (s.set i (.ow (ds.set n d)))
    | _ => False) E.ex) E.ex
  | _ => False
theorem fs_seti (i : Nat) {x : Str} (ha : FE X L W a ta wa) (hi : FE X L W c tb wb) (hN : X.N[i]? = some x := by rfl) (hv : Vis X.env.scope x := by first | exact Or.inl rfl | exact Or.inr (Or.inl rfl) | exact Or.inr (Or.inr rfl)) (hd : (x == ("__debug__" : Str)) = false := by decide)
    (hcd : (x == ("__classdict__" : Str)) = false := by decide)
    (hA : ∀ v, assign (.Subscript (.Name x p) c p2) X.env v = (do
      let ov ← holding [v] (eval (.Name x p) X.env)
      let iv ← holding [v, ov] (eval c X.env)
      standAt p2
      holding [v, ov, iv] (setItem ov iv v)
      release [v, ov, iv] []) := by intro _; rfl)
    (hs : swapsWithSole [.Subscript (.Name x p) c p2] a pos.line X.env = pure false := by rfl) (hw : swappedStores [.Subscript (.Name x p) c p2] a X.env = pure none := by rfl)
    (h1 : (assignEach [.Subscript (.Name x p) c p2] X.env).map (·.2) = [assign (.Subscript (.Name x p) c p2) X.env] := by rfl) :
    FS X L W (.Assign [.Subscript (.Name x p) c p2] a pos) (tAsg ta (gSub (tVar i) tb rSetL)) (wSeti i wa wb) := by
  refine ⟨ps_asg ha.pe (pg_sub (pv i hN hv hd hcd) hi.pe set_list hA) hs hw h1, fun b F s σ H E D' I h ok => ?_⟩
  unfold wSeti at h
  split at h
  · rename_i ds q
    refine ha.snd b F s σ H _ E.ex _ I h ok.exw fun F1 d v H1 I1 m1 k1 r1 q1 => ?_
    obtain ⟨a, vs, e1, _⟩ := slot_ref I1 q
    refine ⟨_, e1, hi.snd b F1 s σ H1 _ E.ex _ I1 q1 (ok.mono m1).exw fun F2 j vj H2 I2 m2 k2 r2 q2 => ?_⟩
    obtain ⟨a', vs', e1', h0, hd1, hf, hh, hs1⟩ := slot_ref I2 q
    rw [e1] at e1'
    cases e1'
    split at q2
    · cases r2
      obtain ⟨n, hn, q3⟩ := q2
      exact ⟨a, vs', _, n, rfl, rfl, hh, by rw [dps_len hs1]; exact hn, ok.nx F2 _ _ _ (I2.grow q e1 (dps_set (dp_mono m2 r1) n hs1)) (m1.trans m2) q3⟩
    · exact q2.elim
  · exact h.elim
theorem ix_lt {n j : Nat} (h : j < n) : ixN n (j : Int) = some j := by
  unfold ixN
  rw [if_pos (by omega), if_pos (by omega)]
  simp
/-- the draws are written -/
theorem Rel.drset {b : Beg} {F : Hp} {s : Sl} {σ : L2.St} {H : Hp} {p : Addr} {vs us : List V} {es : List D} (I : Rel X.K L b F s σ H) (hd : b.dr = some p) (hp : H p = some (.lst vs)) (r : DtAll X.K F us es) (g : L.good es) : Rel X.K L b F s σ (upd H p (.lst us)) := by
  obtain ⟨hf, _⟩ := I.drw p hd
  have nf : ∀ c o, F c = some o → c ≠ p := fun c o h z => by subst z; rw [hf] at h; cases h
  exact {
    sub := fun c o h => by rw [upd_ne (nf c o h)]; exact I.sub c o h
    old := I.old
    new := I.new
    keep := fun c o h d t => by
      have z : c ≠ p := fun z => by subst z; exact d hd
      rw [upd_ne z]; exact I.keep c o h d t
    live := fun c h => I.live c (by
      by_cases z : c = p
      · subst z; rw [upd_same] at h; cases h
      · rw [upd_ne z] at h; exact h)
    drw := fun c h => by
      rw [hd] at h
      cases h
      exact ⟨hf, us, es, upd_same, r, g⟩
    tab := fun P h => by
      obtain ⟨ps, h3, h4⟩ := I.tab P h
      have z : P ≠ p := fun z => by subst z; rw [hp] at h3; cases h3
      exact ⟨ps, by rw [upd_ne z]; exact h3, h4⟩
    ntb := I.ntb
    len := I.len
    slot := fun i c e => by
      have x := I.slot i c e
      cases c with
      | no => trivial
      | fz d => exact x
      | dr => exact x
      | lk ds =>
        obtain ⟨a, ws, e1, g0, gd, gh, gs⟩ := x
        exact ⟨a, ws, e1, g0, gd, by rw [upd_ne (fun z => gd (by rw [z]; exact hd))]; exact gh, gs⟩
      | ow ds =>
        obtain ⟨a, ws, e1, g0, gd, gf, gh, gs⟩ := x
        exact ⟨a, ws, e1, g0, gd, gf, by rw [upd_ne (fun z => gd (by rw [z]; exact hd))]; exact gh, gs⟩
    apart := I.apart }
theorem dr_slot {b : Beg} {F : Hp} {s : Sl} {σ : L2.St} {H : Hp} {i : Nat} (I : Rel X.K L b F s σ H) (q : s[i]? = some .dr) : ∃ p vs ds, σ[i]? = some (some (.ref p)) ∧ b.dr = some p ∧ H p = some (.lst vs) ∧ DtAll X.K F vs ds ∧ L.good ds := by
  obtain ⟨p, e1, e2⟩ := I.slot i _ q
  have hi : i < σ.length := by rw [I.len]; exact (List.getElem?_eq_some_iff.mp q).1
  have e3 : σ[i]? = some (some (.ref p)) := by
    rw [List.getD_eq_getElem?_getD, List.getElem?_eq_getElem hi] at e1
    rw [List.getElem?_eq_getElem hi]; exact congrArg some e1
  obtain ⟨_, vs, ds, h1, h2, h3⟩ := I.drw p e2
  exact ⟨p, vs, ds, e3, e2, h1, h2, h3⟩
/-- draws that the def unpacks -/
def wUnDr (i : Nat) (wgs : List D → Sl → (Sl → Prop) → Prop) (n : Nat) (good : List D → Prop) : Ws := fun s E => match s[i]? with
  | some .dr => ∀ ds, good ds → ds.length = n ∧ wgs ds s E.nx
  | _ => False
theorem fs_unDr (i : Nat) {x : Str} {n kk : Nat} {tgs : List Expr} {gs : TGs} {wgs : List D → Sl → (Sl → Prop) → Prop} {tp : Pos} (hc : X.calm = true) (hg : FGs X L tgs gs wgs) (hN : X.N[i]? = some x := by rfl) (hv : Vis X.env.scope x := by first | exact Or.inl rfl | exact Or.inr (Or.inl rfl) | exact Or.inr (Or.inr rfl)) (hd : (x == ("__debug__" : Str)) = false := by decide)
    (hcd : (x == ("__classdict__" : Str)) = false := by decide) (hn : (assignEach tgs X.env).length = n := by rfl) (hst : (assignEach tgs X.env).findIdx? (·.1) = none := by rfl)
    (hs : swapsWithSole [.Tuple tgs kk tp] (.Name x p) pos.line X.env = pure false := by rfl) (hw : swappedStores [.Tuple tgs kk tp] (.Name x p) X.env = pure none := by rfl)
    (h1 : (assignEach [.Tuple tgs kk tp] X.env).map (·.2) = [assign (.Tuple tgs kk tp) X.env] := by rfl) :
    FS X L W (.Assign [.Tuple tgs kk tp] (.Name x p) pos) (tAsg (tVar i) (gLst X.K n gs)) (wUnDr i wgs n L.good) := by
  refine ⟨ps_asg (pv i hN hv hd hcd) (pg_lst hc hg.pe hn hst) hs hw h1, fun b F s σ H E D' I h ok => ?_⟩
  unfold wUnDr at h
  split at h
  · rename_i q
    obtain ⟨a, vs, ds, e1, e2, e3, e4, e5⟩ := dr_slot I q
    obtain ⟨h2, h3⟩ := h ds e5
    exact ⟨_, e1, a, vs, rfl, .inl (.inl e3), by rw [dps_len e4]; exact h2, hg.snd b F s σ H vs ds _ _ I e4 h3 fun F2 s2 σ2 H2 I2 m2 z => ok.nx F2 s2 σ2 H2 I2 m2 z⟩
  · exact h.elim
/-- draws[j] = v -/
def wSetDr (i : Nat) (j : Nat) (good : List D → Prop) (wv : We) : Ws := fun s E => match s[i]? with
  | some .dr => wv s (fun d => (∀ ds, good ds → j < ds.length ∧ good (ds.set j d)) ∧ E.nx s) E.ex
  | _ => False
theorem fs_setDr (i j : Nat) {x : Str} {kj : Nat} {pj : Pos} (ha : FE X L W a ta wa) (hN : X.N[i]? = some x := by rfl) (hv : Vis X.env.scope x := by first | exact Or.inl rfl | exact Or.inr (Or.inl rfl) | exact Or.inr (Or.inr rfl)) (hd : (x == ("__debug__" : Str)) = false := by decide)
    (hcd : (x == ("__classdict__" : Str)) = false := by decide)
    (hA : ∀ v, assign (.Subscript (.Name x p) (.Constant (.int (j : Int)) kj pj) p2) X.env v = (do
      let ov ← holding [v] (eval (.Name x p) X.env)
      let iv ← holding [v, ov] (eval (.Constant (.int (j : Int)) kj pj) X.env)
      standAt p2
      holding [v, ov, iv] (setItem ov iv v)
      release [v, ov, iv] []) := by intro _; rfl)
    (hs : swapsWithSole [.Subscript (.Name x p) (.Constant (.int (j : Int)) kj pj) p2] a pos.line X.env = pure false := by rfl) (hw : swappedStores [.Subscript (.Name x p) (.Constant (.int (j : Int)) kj pj) p2] a X.env = pure none := by rfl)
    (h1 : (assignEach [.Subscript (.Name x p) (.Constant (.int (j : Int)) kj pj) p2] X.env).map (·.2) = [assign (.Subscript (.Name x p) (.Constant (.int (j : Int)) kj pj) p2) X.env] := by rfl) :
    FS X L W (.Assign [.Subscript (.Name x p) (.Constant (.int (j : Int)) kj pj) p2] a pos) (tAsg ta (gSub (tVar i) (tC (.int (j : Int))) rSetL)) (wSetDr i j L.good wa) := by
  refine ⟨ps_asg ha.pe (pg_sub (pv i hN hv hd hcd) pe_int set_list hA) hs hw h1, fun b F s σ H E D' I h ok => ?_⟩
  unfold wSetDr at h
  split at h
  · rename_i q
    refine ha.snd b F s σ H _ E.ex _ I h ok.exw fun F1 d v H1 I1 m1 k1 r1 q1 => ?_
    obtain ⟨a, vs, ds, e1, e2, e3, e4, e5⟩ := dr_slot I1 q
    obtain ⟨h2, h3⟩ := q1.1 ds e5
    exact ⟨_, e1, a, vs, _, j, rfl, rfl, e3, ix_lt (by rw [dps_len e4]; exact h2), ok.nx F1 _ _ _ (I1.drset e2 e3 (dps_set r1 j e4) h3) m1 q1.2⟩
  · exact h.elim
end
/-! ### draws of the second kind: [turn, left, cells] -/
def goodB (ds : List D) : Prop := ∃ (t l : Int) (cs : List Int), ds = [.int t, .int l, .list (cs.map .int)] ∧ 0 ≤ t ∧ 0 ≤ l ∧ cs ≠ [] ∧ cs.length ≤ 64 ∧ ∀ c ∈ cs, 0 ≤ c
def lwB (tabs : List Addr) : Lw := ⟨tabs, goodB⟩
def spDraw : Fs := fun cs q _ => match cs with
  | [.dr, .fz (.int n)] => (0 < n ∧ DivOk n) ∧ ∀ v : Int, 0 ≤ v → v < n → q (.int v)
  | _ => False
/-! ### constants of the top -/
def GC (K : PySem.W.Frag) (mg : Str → Option Value) (x : Str) (d : D) : Prop := ∃ (v : V) (u : Value), mg x = some u ∧ RelV v u ∧ Dt K (fun _ => none) v d
theorem fe_glb {X : Cx} {L : Lw} {W : WX} {x : Str} {d : D} {pos : Pos} (h : GC X.K X.mg x d) (hg : Gl X x := by rfl) (hd : (x == ("__debug__" : Str)) = false := by decide) : FE X L W (.Name x pos) (tC (Classical.choose h)) (wC d) :=
  let ⟨_, hm, r, hp⟩ := Classical.choose_spec h
  fe_glob hg hm r hp hd
end FL

/-! FL16: min, max, sorted of alike data. -/
namespace FL
open PySem PySem.Spec PyProof.Rows L2
mutual
theorem reads_uniq {h : Heap} : ∀ {d d' : PyData} {v : Value} {as as' : List Addr}, PySem.W.alike d d = true → Reads h v d as → Reads h v d' as' → d = d'
  | .none, _, _, _, _, _, r, r' => by cases r; cases r'; rfl
  | .bool _, _, _, _, _, _, r, r' => by cases r; cases r'; rfl
  | .int _, _, _, _, _, _, r, r' => by cases r; cases r'; rfl
  | .str _, _, _, _, _, _, r, r' => by cases r; cases r'; rfl
  | .list xs, _, _, _, _, al, r, r' => by
    cases r with
    | list e1 e2 e3 e4 =>
      cases r' with
      | list f1 f2 f3 f4 =>
        rw [e1] at f1; cases f1; rw [e3] at f3; cases f3
        rw [readsAll_uniq (by simpa [PySem.W.alike] using al) e4 f4]
      | tuple f1 f2 f3 f4 => rw [e1] at f1; cases f1; rw [e2] at f2; simp at f2
      | dict f1 f2 f3 f4 f5 => rw [e1] at f1; cases f1; rw [e2] at f2; simp at f2
  | .tuple xs, _, _, _, _, al, r, r' => by
    cases r with
    | tuple e1 e2 e3 e4 =>
      cases r' with
      | tuple f1 f2 f3 f4 =>
        rw [e1] at f1; cases f1; rw [e3] at f3; cases f3
        rw [readsAll_uniq (by simpa [PySem.W.alike] using al) e4 f4]
      | list f1 f2 f3 f4 => rw [e1] at f1; cases f1; rw [e2] at f2; simp at f2
      | dict f1 f2 f3 f4 f5 => rw [e1] at f1; cases f1; rw [e2] at f2; simp at f2
  | .dict _, _, _, _, _, al, _, _ => by simp [PySem.W.alike] at al
theorem readsAll_uniq {h : Heap} : ∀ {ds ds' : List PyData} {vs : List Value} {as as' : List Addr}, PySem.W.alikeAll ds ds = true → ReadsAll h vs ds as → ReadsAll h vs ds' as' → ds = ds'
  | [], _, _, _, _, _, r, r' => by cases r; cases r'; rfl
  | d :: ds, _, _, _, _, al, r, r' => by
    cases r with
    | cons r1 r2 =>
      cases r' with
      | cons q1 q2 =>
        have al2 : PySem.W.alike d d = true ∧ PySem.W.alikeAll ds ds = true := by simpa [PySem.W.alikeAll] using al
        rw [reads_uniq al2.1 r1 q1, readsAll_uniq al2.2 r2 q2]
end
def dep64 (ds : List D) : Prop := PyData.depthAll ds ≤ 64
abbrev rBestA (K : PySem.W.Frag) (f : D → List D → D) : List V → Hp → VK → Prop := fun xs H Q => ∃ a us d ds, xs = [V.ref a] ∧ SqL K H a us ∧ DpAll K H us (d :: ds) ∧ PySem.W.AlikeAll (d :: ds) ∧ dep64 (d :: ds) ∧ ∀ (i : Nat) u, us[i]? = some u → (d :: ds)[i]? = some (f d ds) → Q u H
section
variable {X : Cx}
theorem best_out {pins : List (Addr × Obj)} {σ : L2.St} {H : Hp} {s : Shared} {us : List V} {its : List Value} {d m : D} {ds : List D} {as : List Addr} {Q : VK} (I : L2.Inv X pins σ H s) (rv : Vals us its) (hr : ReadsAll s.heap its (d :: ds) as) (hal : PySem.W.AlikeAll (d :: ds)) (q : ∀ (i : Nat) u, us[i]? = some u → (d :: ds)[i]? = some m → Q u H)
    {i : Nat} {v : Value} {h' : Heap} {tk : Nat} {bs : List Addr} (hv : its.toArray[i]? = some v) (hm : Reads h' v m bs) (hk : ∀ b o, s.heap.get? b = some o → h'.get? b = some o) : EP X pins σ Q v { s with heap := h', toks := tk } := by
  have hv' : its[i]? = some v := by simpa using hv
  have hi : i < us.length := by rw [rv.length]; exact (List.getElem?_eq_some_iff.mp hv').1
  obtain ⟨v', e1, e2⟩ := rv.get (List.getElem?_eq_getElem hi)
  rw [hv'] at e1
  cases e1
  obtain ⟨cs, r, h1, h2, _⟩ := PySem.W.readsAll_at hr i v hv'
  have e3 : (d :: ds)[i]? = some ((d :: ds).getD i .none) := by
    rw [List.getD_eq_getElem?_getD, List.getElem?_eq_getElem h1]; rfl
  have e4 : (d :: ds).getD i .none = m := reads_uniq (hal.1 _ h2 _ h2) (PySem.W.reads_keeps hk r) hm
  rw [e4] at e3
  exact ⟨us[i], H, I.kept (t' := tk) hk, e2, q i _ (List.getElem?_eq_getElem hi) e3⟩
theorem cr_minA (hc : X.calm = true) (hu : X.A.units + 65 < cLine) : CallR X (.builtin "min") (rBestA X.K PySem.W.minD) := by
  intro pins s σ H xs vs Q I r h
  obtain ⟨a, us, d, ds, rfl, hq, hdp, hal, hdep, q⟩ := h
  cases r with
  | cons r rr =>
    cases rr
    cases r
    obtain ⟨its, rv, pl, hz⟩ := I.list hq
    obtain ⟨as, hr⟩ := Dp.readsAll I (d :: ds) us its hdp rv
    exact PySem.W.min_list_data (I.ok.hd hc) pl.isList (by simpa using hr) hal (by unfold dep64 at hdep; omega) fun i v h' tk bs hv hm hk => best_out I rv hr hal q hv hm hk
theorem cr_maxA (hc : X.calm = true) (hu : X.A.units + 65 < cLine) : CallR X (.builtin "max") (rBestA X.K PySem.W.maxD) := by
  intro pins s σ H xs vs Q I r h
  obtain ⟨a, us, d, ds, rfl, hq, hdp, hal, hdep, q⟩ := h
  cases r with
  | cons r rr =>
    cases rr
    cases r
    obtain ⟨its, rv, pl, hz⟩ := I.list hq
    obtain ⟨as, hr⟩ := Dp.readsAll I (d :: ds) us its hdp rv
    exact PySem.W.max_list_data (I.ok.hd hc) pl.isList (by simpa using hr) hal (by unfold dep64 at hdep; omega) fun i v h' tk bs hv hm hk => best_out I rv hr hal q hv hm hk
/-- the best item of a list of alike data -/
def dBest (f : D → List D → D) : D → (D → Prop) → Prop := fun e Q => match e with
  | .list (d :: ds) => (PySem.W.AlikeAll (d :: ds) ∧ dep64 (d :: ds)) ∧ Q (f d ds)
  | _ => False
variable {L : Lw} {W : WX}
theorem snd_best {f : D → List D → D} (hf : ∀ d ds, f d ds ∈ d :: ds) (b : Beg) (F : Hp) (s : Sl) (σ : L2.St) (H : Hp) (v : V) (e : D) (Q : D → Prop) (k : VK) (I : Rel X.K L b F s σ H) (hv : DpB X.K b F H v e) (q : dBest f e Q) (kk : ∀ F' c v H', Rel X.K L b F' s σ H' → Same F F' → Kp b H H' → Dt X.K F' v c → Q c → k v H') :
    rBestA X.K f [v] H k := by
  unfold dBest at q
  split at q
  · rename_i d ds
    have main : ∀ {a : Addr} {us : List V}, SqL X.K H a us → DtAll X.K F us (d :: ds) → rBestA X.K f [.ref a] H k := fun {a us} hs r =>
      ⟨a, us, d, ds, rfl, hs, dts_dp (dps_mono I.sub r), q.1.1, q.1.2, fun i u e1 e2 => by
        obtain ⟨v', e3, e4⟩ := dps_get r e2
        rw [e1] at e3; cases e3
        exact kk F _ _ H I (Same.refl F) Kp.refl e4 q.2⟩
    rcases hv with hv | ⟨a, vs, ds', rfl, e2, e3, e4, e5⟩
    · cases hv with
      | lst q1 q2 => exact main (I.sub.seq q1) q2
    · cases e2
      exact main (.inl (.inl e4)) e5
  · exact q.elim
theorem minD_mem (d : D) (ds : List D) : PySem.W.minD d ds ∈ d :: ds := by
  unfold PySem.W.minD
  induction ds generalizing d with
  | nil => exact List.mem_cons_self
  | cons x xs ih =>
    rw [List.foldl_cons]
    split
    · exact List.mem_cons_of_mem _ (ih x)
    · rcases List.mem_cons.mp (ih d) with h | h
      · rw [h]; exact List.mem_cons_self
      · exact List.mem_cons_of_mem _ (List.mem_cons_of_mem _ h)
theorem maxD_mem (d : D) (ds : List D) : PySem.W.maxD d ds ∈ d :: ds := by
  unfold PySem.W.maxD
  induction ds generalizing d with
  | nil => exact List.mem_cons_self
  | cons x xs ih =>
    rw [List.foldl_cons]
    split
    · exact List.mem_cons_of_mem _ (ih x)
    · rcases List.mem_cons.mp (ih d) with h | h
      · rw [h]; exact List.mem_cons_self
      · exact List.mem_cons_of_mem _ (List.mem_cons_of_mem _ h)
theorem cal_minA {k : Nat} (hr : Room k X.A) (hc : X.calm = true := by rfl) : CalB X L (.builtin "min") (rBestA X.K PySem.W.minD) (dBest PySem.W.minD) := ⟨cr_minA hc (by have := hr.un; omega), snd_best minD_mem⟩
theorem cal_maxA {k : Nat} (hr : Room k X.A) (hc : X.calm = true := by rfl) : CalB X L (.builtin "max") (rBestA X.K PySem.W.maxD) (dBest PySem.W.maxD) := ⟨cr_maxA hc (by have := hr.un; omega), snd_best maxD_mem⟩
end
theorem tabIn_of {K : PySem.W.Frag} {x : Str} {f c P : Addr} {oc o1 : Value} {od o2 : Option Addr} {sl o3 : Array (Option Value)} {fd : FuncData} {vs : Array Value} (a : PySem.W.nsIn K mainGlobals x = some (some (.ref f))) (l : K.lookup f = some ⟨oc, od, .func fd, sl⟩) (hc : fd.code = .ref c)
    (lc : K.lookup c = some ⟨o1, o2, .fields vs, o3⟩) (hv : vs[11]? = some (.ref P)) : PySem.W.tabIn K x = some (c, P) := by
  unfold PySem.W.tabIn
  rw [a]
  dsimp only
  rw [l]
  dsimp only
  rw [hc]
  dsimp only
  rw [lc]
  dsimp only
  rw [hv]
end FL

/-! FL17: several stores at once, the last (or the first, ahead of constants) a new list of the def's own. -/
namespace FL
open PySem PySem.Spec PyProof.Rows L2
section
variable {K : PySem.W.Frag} {L : Lw} {b : Beg} {F F' : Hp} {s : Sl} {σ : L2.St} {H H' : Hp}
theorem hn_put {i : Nat} {p : Addr} {d : D} {v : V} (h : ∀ (j : Nat), isOw s[j]? → σ[j]? ≠ some (some (.ref p))) : ∀ (j : Nat), isOw (s.set i (.fz d))[j]? → (σ.set i (some v))[j]? ≠ some (some (.ref p)) := by
  intro j z
  by_cases q : j = i
  · subst q
    rw [List.getElem?_set] at z
    split at z
    · split at z <;> exact z.elim
    · rename_i y; exact absurd rfl y
  · rw [List.getElem?_set_ne (Ne.symm q)] at z ⊢
    exact h j z
end
section
variable {X : Cx} {L : Lw} {W : WX} {pos p : Pos} {a c e : Expr} {ta tb te : TE} {wa wb we : We} {wl : Wl}
def wParO (i j : Nat) (wa : We) (wl : Wl) : Ws := fun s E => wa s (fun d => wl s (fun ds => E.nx ((s.set i (.fz d)).set j (.ow ds))) E.ex) E.ex
theorem fs_parO {i j : Nat} {x y : Str} {px py pt pt2 : Pos} {kt k2 : Nat} (hc : X.calm = true) (hN : X.N.Nodup) (ha : FE X L W a ta wa) (hb : FN X L W c tb wl) (hi : X.N[i]? = some x := by rfl) (hj : X.N[j]? = some y := by rfl) (hij : i ≠ j := by decide)
    (hx : X.env.scope.names.lookup x = some .local := by rfl) (hy : X.env.scope.names.lookup y = some .local := by rfl)
    (hw : swappedStores [.Tuple [.Name x px, .Name y py] kt pt] (.Tuple [a, c] k2 pt2) X.env = pure (some [x, y]) := by rfl)
    (hs : swapsWithSole [.Tuple [.Name x px, .Name y py] kt pt] (.Tuple [a, c] k2 pt2) pos.line X.env = pure false := by rfl)
    (h1 : starEach [a, c] X.env = (false, eval a X.env) :: starEach [c] X.env := by rfl) (h2 : starEach [c] X.env = (false, eval c X.env) :: starEach [] X.env := by rfl) :
    FS X L W (.Assign [.Tuple [.Name x px, .Name y py] kt pt] (.Tuple [a, c] k2 pt2) pos) (tPar i j (tCons ta (tCons tb tNil))) (wParO i j wa wl) := by
  refine ⟨ps_par hc hN hi hj hij hx hy (pa_cons ha.pe (pa_cons hb.pe pa_nil h2) h1) hw hs, fun b F s σ H E D' I h ok => ?_⟩
  refine ha.snd b F s σ H _ E.ex _ I h ok.exw fun F1 d v H1 I1 m1 k1 r1 q => ?_
  refine hb.snd b F1 s σ H1 _ E.ex _ I1 q (ok.exw.mono m1) fun F2 ds p vs H2 I2 m2 k2 fr e2 r2 z => ?_
  exact ⟨_, _, rfl, ok.nx F2 _ _ H2 ((I2.put (dp_mono m2 r1)).putO fr.h0 fr.hd fr.hf (hn_put fr.hn) e2 r2) (m1.trans m2) z⟩
def wPar3O (i j l : Nat) (wa wb : We) (wl : Wl) : Ws := fun s E => wa s (fun d => wb s (fun e => wl s (fun ds => E.nx (((s.set i (.fz d)).set j (.fz e)).set l (.ow ds))) E.ex) E.ex) E.ex
theorem fs_par3O {i j l : Nat} {x y z : Str} {px py pz pt pt2 : Pos} {kt k2 : Nat} (hc : X.calm = true) (hN : X.N.Nodup) (ha : FE X L W a ta wa) (hb : FE X L W c tb wb) (he : FN X L W e te wl) (hi : X.N[i]? = some x := by rfl) (hj : X.N[j]? = some y := by rfl) (hl : X.N[l]? = some z := by rfl) (hij : i ≠ j := by decide) (hil : i ≠ l := by decide) (hjl : j ≠ l := by decide)
    (hx : X.env.scope.names.lookup x = some .local := by rfl) (hy : X.env.scope.names.lookup y = some .local := by rfl) (hz : X.env.scope.names.lookup z = some .local := by rfl)
    (hw : swappedStores [.Tuple [.Name x px, .Name y py, .Name z pz] kt pt] (.Tuple [a, c, e] k2 pt2) X.env = pure (some [x, y, z]) := by rfl)
    (hs : swapsWithSole [.Tuple [.Name x px, .Name y py, .Name z pz] kt pt] (.Tuple [a, c, e] k2 pt2) pos.line X.env = pure false := by rfl)
    (h1 : starEach [a, c, e] X.env = (false, eval a X.env) :: starEach [c, e] X.env := by rfl) (h2 : starEach [c, e] X.env = (false, eval c X.env) :: starEach [e] X.env := by rfl) (h3 : starEach [e] X.env = (false, eval e X.env) :: starEach [] X.env := by rfl) :
    FS X L W (.Assign [.Tuple [.Name x px, .Name y py, .Name z pz] kt pt] (.Tuple [a, c, e] k2 pt2) pos) (tPar3 i j l (tCons ta (tCons tb (tCons te tNil)))) (wPar3O i j l wa wb wl) := by
  refine ⟨ps_par3 hc hN hi hj hl hij hil hjl hx hy hz (pa_cons ha.pe (pa_cons hb.pe (pa_cons he.pe pa_nil h3) h2) h1) hw hs, fun b F s σ H E D' I h ok => ?_⟩
  refine ha.snd b F s σ H _ E.ex _ I h ok.exw fun F1 d v H1 I1 m1 k1 r1 q => ?_
  refine hb.snd b F1 s σ H1 _ E.ex _ I1 q (ok.exw.mono m1) fun F2 d2 v2 H2 I2 m2 k2 r2 q => ?_
  refine he.snd b F2 s σ H2 _ E.ex _ I2 q (ok.exw.mono (m1.trans m2)) fun F3 ds p vs H3 I3 m3 k3 fr e2 r3 z => ?_
  exact ⟨_, _, _, rfl, ok.nx F3 _ _ H3 (((I3.put (dp_mono (m2.trans m3) r1)).put (dp_mono m3 r2)).putO fr.h0 fr.hd fr.hf (hn_put (hn_put fr.hn)) e2 r3) ((m1.trans m2).trans m3) z⟩
/-- a new list ahead of a constant -/
def wParOc (i j : Nat) (d : D) (wl : Wl) : Ws := fun s E => wl s (fun ds => E.nx ((s.set i (.ow ds)).set j (.fz d))) E.ex
theorem fs_parOc {i j : Nat} {x y : Str} {px py pt pt2 : Pos} {kt k2 : Nat} {v : V} {d : D} (hc : X.calm = true) (hN : X.N.Nodup) (hb : FN X L W a ta wl) (hv : PE X c (tC v)) (hd : ∀ F, Dt X.K F v d) (hi : X.N[i]? = some x := by rfl) (hj : X.N[j]? = some y := by rfl) (hij : i ≠ j := by decide)
    (hx : X.env.scope.names.lookup x = some .local := by rfl) (hy : X.env.scope.names.lookup y = some .local := by rfl)
    (hw : swappedStores [.Tuple [.Name x px, .Name y py] kt pt] (.Tuple [a, c] k2 pt2) X.env = pure (some [x, y]) := by rfl)
    (hs : swapsWithSole [.Tuple [.Name x px, .Name y py] kt pt] (.Tuple [a, c] k2 pt2) pos.line X.env = pure false := by rfl)
    (h1 : starEach [a, c] X.env = (false, eval a X.env) :: starEach [c] X.env := by rfl) (h2 : starEach [c] X.env = (false, eval c X.env) :: starEach [] X.env := by rfl) :
    FS X L W (.Assign [.Tuple [.Name x px, .Name y py] kt pt] (.Tuple [a, c] k2 pt2) pos) (tPar i j (tCons ta (tCons (tC v) tNil))) (wParOc i j d wl) := by
  refine ⟨ps_par hc hN hi hj hij hx hy (pa_cons hb.pe (pa_cons hv pa_nil h2) h1) hw hs, fun b F s σ H E D' I h ok => ?_⟩
  refine hb.snd b F s σ H _ E.ex _ I h ok.exw fun F2 ds p vs H2 I2 m2 k2 fr e2 r2 z => ?_
  exact ⟨_, _, rfl, ok.nx F2 _ _ H2 ((I2.putO fr.h0 fr.hd fr.hf fr.hn e2 r2).put (hd F2)) m2 z⟩
end
end FL

/-! FL18: plain lemmas: what == of data needs and says. -/
namespace FL
open PySem PySem.Spec PyProof.Rows L2
section
variable {c : Cel} {s : Sl} {E : En}
theorem u_parO {i j : Nat} {wa : We} {wl : Wl} : wParO i j wa wl (c :: s) E = wa (c :: s) (fun d => wl (c :: s) (fun ds => E.nx (((c :: s).set i (.fz d)).set j (.ow ds))) E.ex) E.ex := rfl
theorem u_par3O {i j l : Nat} {wa wb : We} {wl : Wl} : wPar3O i j l wa wb wl (c :: s) E = wa (c :: s) (fun d => wb (c :: s) (fun e => wl (c :: s) (fun ds => E.nx ((((c :: s).set i (.fz d)).set j (.fz e)).set l (.ow ds))) E.ex) E.ex) E.ex := rfl
theorem u_parOc {i j : Nat} {d : D} {wl : Wl} : wParOc i j d wl (c :: s) E = wl (c :: s) (fun ds => E.nx (((c :: s).set i (.ow ds)).set j (.fz d))) E.ex := rfl
end
/-- the first statement by itself -/
theorem seq_mid {a r : Ws} {s : Sl} {E : En} (s2 : Sl) (h : ∀ N : Sl → Prop, N s2 → a s { E with nx := N }) (k : r s2 E) : wSeq a r s E := h (fun s' => r s' E) k
theorem seq_midP {a r : Ws} {s : Sl} {E : En} (P : Sl → Prop) (h : ∀ N : Sl → Prop, (∀ s2, P s2 → N s2) → a s { E with nx := N }) (k : ∀ s2, P s2 → r s2 E) : wSeq a r s E := h (fun s' => r s' E) k
theorem ws_mid {a : Ws} {s : Sl} {E : En} (s2 : Sl) (h : ∀ N : Sl → Prop, N s2 → a s { E with nx := N }) (k : E.nx s2) : a s E := h E.nx k
/-- data that can be compared, of depth at most n -/
def Sh (n : Nat) (d : D) : Prop := d.canLay0 = true ∧ d.depth ≤ n
theorem sh_i {n : Nat} {i : Int} : Sh n (.int i) := ⟨rfl, Nat.zero_le _⟩
theorem sh_b {n : Nat} {i : Bool} : Sh n (.bool i) := ⟨rfl, Nat.zero_le _⟩
theorem sh_n {n : Nat} : Sh n .none := ⟨rfl, Nat.zero_le _⟩
theorem sh_s {n : Nat} {x : Str} (h : PyData.canLay0 (.str x) = true) : Sh n (.str x) := ⟨h, Nat.zero_le _⟩
theorem sh_all {n : Nat} : ∀ {ds : List D}, (∀ d ∈ ds, Sh n d) → PyData.canLayAll0 ds = true ∧ PyData.depthAll ds ≤ n
  | [], _ => ⟨rfl, Nat.zero_le _⟩
  | d :: ds, h => by
    have h1 := h d List.mem_cons_self
    have h2 := sh_all fun e he => h e (List.mem_cons_of_mem _ he)
    unfold PyData.canLayAll0 PyData.depthAll
    rw [h1.1, h2.1]
    exact ⟨rfl, Nat.max_le.mpr ⟨h1.2, h2.2⟩⟩
theorem sh_l {n : Nat} {ds : List D} (h : ∀ d ∈ ds, Sh n d) : Sh (n + 1) (.list ds) := by
  have := sh_all h
  refine ⟨by unfold PyData.canLay0; exact this.1, ?_⟩
  have h2 := this.2
  unfold PyData.depth
  omega
theorem sh_t {n : Nat} {ds : List D} (h : ∀ d ∈ ds, Sh n d) : Sh (n + 1) (.tuple ds) := by
  have := sh_all h
  refine ⟨by unfold PyData.canLay0; exact this.1, ?_⟩
  have h2 := this.2
  unfold PyData.depth
  omega
theorem sh_ok {n : Nat} {d : D} (h : Sh n d) (hn : n ≤ 64 := by decide) : SeqAt.shaped d = true := by
  unfold SeqAt.shaped
  rw [h.1, decide_eq_true (Nat.le_trans h.2 hn)]
  rfl
theorem sh_eq {n m : Nat} {d e : D} (h : Sh n d) (h' : Sh m e) (hn : n ≤ 64 := by decide) (hm : m ≤ 64 := by decide) : EqOk d e := .inr ⟨sh_ok h hn, sh_ok h' hm⟩
theorem sh_nilL : Sh 1 (.list []) := sh_l fun _ h => by cases h
theorem sh_nilT : Sh 1 (.tuple []) := sh_t fun _ h => by cases h
theorem ev_lnil {ds : List D} : PyData.eqv (.list ds) (.list []) = decide (ds = []) := by
  cases ds <;> simp [PyData.eqv, PyData.eqvAll]
theorem ev_tnil {ds : List D} : PyData.eqv (.tuple ds) (.tuple []) = decide (ds = []) := by
  cases ds <;> simp [PyData.eqv, PyData.eqvAll]
theorem evs_map {α : Type} [DecidableEq α] {f : α → D} (h : ∀ x y, PyData.eqv (f x) (f y) = decide (x = y)) : ∀ xs ys : List α, PyData.eqvAll (xs.map f) (ys.map f) = decide (xs = ys)
  | [], [] => by simp [PyData.eqvAll]
  | [], _ :: _ => by simp [PyData.eqvAll]
  | _ :: _, [] => by simp [PyData.eqvAll]
  | x :: xs, y :: ys => by
    rw [List.map_cons, List.map_cons, PyData.eqvAll, h x y, evs_map h xs ys, ← Bool.decide_and]
    exact decide_eq_decide.mpr (by rw [List.cons.injEq])
theorem ev_lmap {α : Type} [DecidableEq α] {f : α → D} (h : ∀ x y, PyData.eqv (f x) (f y) = decide (x = y)) (xs ys : List α) : PyData.eqv (.list (xs.map f)) (.list (ys.map f)) = decide (xs = ys) := by
  rw [PyData.eqv]; exact evs_map h xs ys
theorem ev_tmap {α : Type} [DecidableEq α] {f : α → D} (h : ∀ x y, PyData.eqv (f x) (f y) = decide (x = y)) (xs ys : List α) : PyData.eqv (.tuple (xs.map f)) (.tuple (ys.map f)) = decide (xs = ys) := by
  rw [PyData.eqv]; exact evs_map h xs ys
theorem cut_take {α : Type} (xs : List α) (k : Nat) : cutL xs none (some (k : Int)) = xs.take k := by
  unfold cutL
  rw [HT.sIx_none, HT.sIx_nat, Nat.sub_zero, List.drop_zero]
  rw [List.take_eq_take_iff]
  omega
theorem cut_drop {α : Type} (xs : List α) (k : Nat) : cutL xs (some (k : Int)) none = xs.drop k := by
  unfold cutL
  rw [HT.sIx_none, HT.sIx_nat]
  rw [List.take_of_length_le (by rw [List.length_drop]; omega)]
  rcases Nat.le_total k xs.length with h | h
  · rw [Nat.min_eq_left h]
  · rw [Nat.min_eq_right h, List.drop_of_length_le (Nat.le_refl _), List.drop_of_length_le h]
end FL

namespace Lw
open PySem PySem.Spec PyProof.Rows L2 FL
def topS (i : Nat) : Stmt := PySem.Challenge.pw_nightsgiven_k62_whole_nights_together.main.body.getD i (.Pass ⟨0, 0, 0, 0⟩)
local macro_rules | `(tactic| walk_at "wp") => `(tactic| try dsimp only [u_seq, u_next, u_drop, u_ret, u_retO, u_ifS, u_asg, u_setO, u_par, u_par3, u_parO, u_par3O, u_parOc, u_aug, u_for, u_app, u_fix, u_gname, l_map1, l_map0, b_nt, b_nf, c_t, c_f, wVar, wVarB, wC, wOp, dI, dI0, dAdd, wNeg, wCmpV, wCmpT, dEq, dNe, dO, isNoneD, dIsN, dNotN, wAndT, wOrT, wNotT, truOk, truD, wTruT, wNotV, wAndV, wOrV, wIf, wChain, wBoolV, wIx, wNil, wCons, wTup, wLst, wN, wANil, wACons, wADr, wCall, wCallN, wgNil, wgCons, wgTup, wSeqI, seqD, wRng1, wRng2, wRng3, wCal, dAbs, dMax2, dMin2, dInt1, wCalB, dLen, isIntD, isBoolD, isStrD, isTupD, isLstD, wIsi, wLRev, wListA, dTupA, startS, wO0, wO1, dSl, wSl, wSlN, wRepN, wRepT, dIn, dGcd, dIntsL, wStar, wSeti, wUnDr, wSetDr, spDraw, dBest, wSetL, wLc, wAll, wAny, wYes, stpAll, stpAny, u_wipe0, u_wipe1, u_lk0, u_lk1, lkC, spTake, List.getElem?_cons_zero, List.getElem?_cons_succ, List.getElem?_nil, List.set_cons_zero, List.set_cons_succ, List.length_cons, List.length_nil, List.replicate_succ, List.replicate_zero, List.cons_append, List.nil_append, Nat.reduceAdd, Nat.reduceSub])
local macro_rules | `(tactic| walk_at "sm") => `(tactic| try simp only [c_t, c_f, ix0, ix1, ix2, ix3, ix4, cond_dec, cond_not, ok_ii, ok_bb, ok_ss, ok_nn, ok_ni, ok_in, ok_nb, ok_bn, ok_ns, ok_sn, ok_is, ok_si, ok_bs, ok_sb, ev_ii, ev_bb, ev_ss, ev_nn, ev_ni, ev_in, ev_nb, ev_bn, ev_ns, ev_sn, ev_is, ev_si, ev_bs, ev_sb, true_and, and_true, decide_eq_true_eq, decide_eq_false_iff_not, Bool.not_eq_true', Bool.not_eq_false', Bool.not_true, Bool.not_false, Bool.false_eq_true, Bool.true_eq_false, reduceCtorEq, decide_true, decide_false, false_implies, forall_const, true_implies, not_true_eq_false, not_false_eq_true])
abbrev s_is_number : Stmt := topS 2
theorem sc_is_number : FnScope ["value", "least", "most"] ["value", "least", "most"] (defScope s_is_number) := ⟨rfl, rfl, rfl, by decide +kernel, rfl, by decide +kernel, by decide +kernel⟩
abbrev s_lowest : Stmt := topS 4
theorem sc_lowest : FnScope ["part", "whole", "common"] ["part", "whole"] (defScope s_lowest) := ⟨rfl, rfl, rfl, by decide +kernel, rfl, by decide +kernel, by decide +kernel⟩
abbrev s_less : Stmt := topS 5
theorem sc_less : FnScope ["one", "other"] ["one", "other"] (defScope s_less) := ⟨rfl, rfl, rfl, by decide +kernel, rfl, by decide +kernel, by decide +kernel⟩
abbrev s_is_night : Stmt := topS 10
theorem sc_is_night : FnScope ["value", "at"] ["value"] (defScope s_is_night) := ⟨rfl, rfl, rfl, by decide +kernel, rfl, by decide +kernel, by decide +kernel⟩
abbrev s_are_nights : Stmt := topS 11
theorem sc_are_nights : FnScope ["value", "one"] ["value"] (defScope s_are_nights) := ⟨rfl, rfl, rfl, by decide +kernel, rfl, by decide +kernel, by decide +kernel⟩
abbrev s_rate_over : Stmt := topS 12
theorem sc_rate_over : FnScope ["nights", "watcher", "some", "seen", "number"] ["nights", "watcher", "some"] (defScope s_rate_over) := ⟨rfl, rfl, rfl, by decide +kernel, rfl, by decide +kernel, by decide +kernel⟩
abbrev s_is_greater : Stmt := topS 13
theorem sc_is_greater : FnScope ["nights", "some"] ["nights", "some"] (defScope s_is_greater) := ⟨rfl, rfl, rfl, by decide +kernel, rfl, by decide +kernel, by decide +kernel⟩
abbrev s_are_turned : Stmt := topS 14
theorem sc_are_turned : FnScope ["nights", "value", "one", "at"] ["nights", "value"] (defScope s_are_turned) := ⟨rfl, rfl, rfl, by decide +kernel, rfl, by decide +kernel, by decide +kernel⟩
abbrev s_told_turned : Stmt := topS 15
theorem sc_told_turned : FnScope ["nights", "rows", "number", "good", "row"] ["nights"] (defScope s_told_turned) := ⟨rfl, rfl, rfl, by decide +kernel, rfl, by decide +kernel, by decide +kernel⟩
abbrev s__law_draws : Stmt := topS 17
theorem sc__law_draws : FnScope ["script", "draws", "cell", "seed", "k", "number", "first"] ["script"] (defScope s__law_draws) := ⟨rfl, rfl, rfl, by decide +kernel, rfl, by decide +kernel, by decide +kernel⟩
abbrev s__law_take : Stmt := topS 18
theorem sc__law_take : FnScope ["draws", "bound"] ["draws", "bound"] (defScope s__law_take) := ⟨rfl, rfl, rfl, by decide +kernel, rfl, by decide +kernel, by decide +kernel⟩
abbrev s__law_alike : Stmt := topS 19
theorem sc__law_alike : FnScope ["found", "due", "k"] ["found", "due"] (defScope s__law_alike) := ⟨rfl, rfl, rfl, by decide +kernel, rfl, by decide +kernel, by decide +kernel⟩
abbrev s__law_lowest : Stmt := topS 20
theorem sc__law_lowest : FnScope ["part", "whole", "one", "other"] ["part", "whole"] (defScope s__law_lowest) := ⟨rfl, rfl, rfl, by decide +kernel, rfl, by decide +kernel, by decide +kernel⟩
abbrev s__law_nights : Stmt := topS 21
theorem sc__law_nights : FnScope ["draws", "night", "top", "rows", "seen", "less_v", "hours", "other"] ["draws"] (defScope s__law_nights) := ⟨rfl, rfl, rfl, by decide +kernel, rfl, by decide +kernel, by decide +kernel⟩
abbrev s__law_sums : Stmt := topS 22
theorem sc__law_sums : FnScope ["nights", "watcher", "some", "k"] ["nights", "watcher", "some"] (defScope s__law_sums) := ⟨rfl, rfl, rfl, by decide +kernel, rfl, by decide +kernel, by decide +kernel⟩
abbrev s__law_more : Stmt := topS 23
theorem sc__law_more : FnScope ["one", "other"] ["one", "other"] (defScope s__law_more) := ⟨rfl, rfl, rfl, by decide +kernel, rfl, by decide +kernel, by decide +kernel⟩
abbrev s__law_turned : Stmt := topS 24
theorem sc__law_turned : FnScope ["nights", "some", "k"] ["nights", "some"] (defScope s__law_turned) := ⟨rfl, rfl, rfl, by decide +kernel, rfl, by decide +kernel, by decide +kernel⟩
abbrev s_law : Stmt := topS 25
theorem sc_law : FnScope ["script", "draws", "nights", "odd", "sets", "number", "turned", "best", "turn", "times", "even", "many", "good", "row", "watcher", "ones", "seen", "hours", "value", "k", "one"] ["script"] (defScope s_law) := ⟨rfl, rfl, rfl, by decide +kernel, rfl, by decide +kernel, by decide +kernel⟩
structure Ads where
  a_is_number : Addr
  d_is_number : FuncData
  a_lowest : Addr
  d_lowest : FuncData
  a_less : Addr
  d_less : FuncData
  a_is_night : Addr
  d_is_night : FuncData
  a_are_nights : Addr
  d_are_nights : FuncData
  a_rate_over : Addr
  d_rate_over : FuncData
  a_is_greater : Addr
  d_is_greater : FuncData
  a_are_turned : Addr
  d_are_turned : FuncData
  a_told_turned : Addr
  d_told_turned : FuncData
  a__law_draws : Addr
  d__law_draws : FuncData
  a__law_take : Addr
  d__law_take : FuncData
  a__law_alike : Addr
  d__law_alike : FuncData
  a__law_lowest : Addr
  d__law_lowest : FuncData
  a__law_nights : Addr
  d__law_nights : FuncData
  a__law_sums : Addr
  d__law_sums : FuncData
  a__law_more : Addr
  d__law_more : FuncData
  a__law_turned : Addr
  d__law_turned : FuncData
  a_law : Addr
  d_law : FuncData
  c_is_night : Addr
  p_is_night : Addr
  c_are_nights : Addr
  p_are_nights : Addr
  c_are_turned : Addr
  p_are_turned : Addr
structure Txt (K : PySem.W.Frag) (mg : Str → Option Value) (A : Ads) : Prop where
  f_is_number : Fun K "is_number" "is_number" s_is_number A.a_is_number A.d_is_number
  m_is_number : mg "is_number" = some (.ref A.a_is_number)
  b_is_number : Binds K A.d_is_number ["value", "least", "most"] []
  f_lowest : Fun K "lowest" "lowest" s_lowest A.a_lowest A.d_lowest
  m_lowest : mg "lowest" = some (.ref A.a_lowest)
  b_lowest : Binds K A.d_lowest ["part", "whole"] []
  f_less : Fun K "less" "less" s_less A.a_less A.d_less
  m_less : mg "less" = some (.ref A.a_less)
  b_less : Binds K A.d_less ["one", "other"] []
  f_is_night : Fun K "is_night" "is_night" s_is_night A.a_is_night A.d_is_night
  m_is_night : mg "is_night" = some (.ref A.a_is_night)
  b_is_night : Binds K A.d_is_night ["value"] []
  f_are_nights : Fun K "are_nights" "are_nights" s_are_nights A.a_are_nights A.d_are_nights
  m_are_nights : mg "are_nights" = some (.ref A.a_are_nights)
  b_are_nights : Binds K A.d_are_nights ["value"] []
  f_rate_over : Fun K "rate_over" "rate_over" s_rate_over A.a_rate_over A.d_rate_over
  m_rate_over : mg "rate_over" = some (.ref A.a_rate_over)
  b_rate_over : Binds K A.d_rate_over ["nights", "watcher", "some"] []
  f_is_greater : Fun K "is_greater" "is_greater" s_is_greater A.a_is_greater A.d_is_greater
  m_is_greater : mg "is_greater" = some (.ref A.a_is_greater)
  b_is_greater : Binds K A.d_is_greater ["nights", "some"] []
  f_are_turned : Fun K "are_turned" "are_turned" s_are_turned A.a_are_turned A.d_are_turned
  m_are_turned : mg "are_turned" = some (.ref A.a_are_turned)
  b_are_turned : Binds K A.d_are_turned ["nights", "value"] []
  f_told_turned : Fun K "told_turned" "told_turned" s_told_turned A.a_told_turned A.d_told_turned
  m_told_turned : mg "told_turned" = some (.ref A.a_told_turned)
  b_told_turned : Binds K A.d_told_turned ["nights"] []
  f__law_draws : Fun K "_law_draws" "_law_draws" s__law_draws A.a__law_draws A.d__law_draws
  m__law_draws : mg "_law_draws" = some (.ref A.a__law_draws)
  b__law_draws : Binds K A.d__law_draws ["script"] []
  f__law_take : Fun K "_law_take" "_law_take" s__law_take A.a__law_take A.d__law_take
  m__law_take : mg "_law_take" = some (.ref A.a__law_take)
  b__law_take : Binds K A.d__law_take ["draws", "bound"] []
  f__law_alike : Fun K "_law_alike" "_law_alike" s__law_alike A.a__law_alike A.d__law_alike
  m__law_alike : mg "_law_alike" = some (.ref A.a__law_alike)
  b__law_alike : Binds K A.d__law_alike ["found", "due"] []
  f__law_lowest : Fun K "_law_lowest" "_law_lowest" s__law_lowest A.a__law_lowest A.d__law_lowest
  m__law_lowest : mg "_law_lowest" = some (.ref A.a__law_lowest)
  b__law_lowest : Binds K A.d__law_lowest ["part", "whole"] []
  f__law_nights : Fun K "_law_nights" "_law_nights" s__law_nights A.a__law_nights A.d__law_nights
  m__law_nights : mg "_law_nights" = some (.ref A.a__law_nights)
  b__law_nights : Binds K A.d__law_nights ["draws"] []
  f__law_sums : Fun K "_law_sums" "_law_sums" s__law_sums A.a__law_sums A.d__law_sums
  m__law_sums : mg "_law_sums" = some (.ref A.a__law_sums)
  b__law_sums : Binds K A.d__law_sums ["nights", "watcher", "some"] []
  f__law_more : Fun K "_law_more" "_law_more" s__law_more A.a__law_more A.d__law_more
  m__law_more : mg "_law_more" = some (.ref A.a__law_more)
  b__law_more : Binds K A.d__law_more ["one", "other"] []
  f__law_turned : Fun K "_law_turned" "_law_turned" s__law_turned A.a__law_turned A.d__law_turned
  m__law_turned : mg "_law_turned" = some (.ref A.a__law_turned)
  b__law_turned : Binds K A.d__law_turned ["nights", "some"] []
  f_law : Fun K "law" "law" s_law A.a_law A.d_law
  m_law : mg "law" = some (.ref A.a_law)
  b_law : Binds K A.d_law ["script"] []
  n_abs : mg "abs" = none
  n_all : mg "all" = none
  n_bool : mg "bool" = none
  n_int : mg "int" = none
  n_isinstance : mg "isinstance" = none
  n_len : mg "len" = none
  n_list : mg "list" = none
  n_max : mg "max" = none
  n_min : mg "min" = none
  n_range : mg "range" = none
  n_reversed : mg "reversed" = none
  n_str : mg "str" = none
  n_sum : mg "sum" = none
  n_tuple : mg "tuple" = none
  k_is_night : A.d_is_night.code = .ref A.c_is_night
  k_are_nights : A.d_are_nights.code = .ref A.c_are_nights
  k_are_turned : A.d_are_turned.code = .ref A.c_are_turned
  i_gcd : mg "gcd" = some (.builtin "math.gcd")
  g_MOST_SEEN : GC K mg "MOST_SEEN" (.int 100)
  g_MOST_HOURS : GC K mg "MOST_HOURS" (.int 24)
  g_MOST_NIGHTS : GC K mg "MOST_NIGHTS" (.int 7)
structure Tbs (mg : Str → Option Value) (base : Heap) (A : Ads) : Prop where
  t_is_night : LamX.TabB base mg A.c_is_night A.p_is_night
  t_are_nights : LamX.TabB base mg A.c_are_nights A.p_are_nights
  t_are_turned : LamX.TabB base mg A.c_are_turned A.p_are_turned
theorem bt_isinstance : bootBuiltins "isinstance" = some (.builtin "isinstance") := by decide +kernel
section
variable {P : Program} {w : World} {K : PySem.W.Frag} {mg : Str → Option Value} {base : Heap} {A : Ads}
abbrev LL (A : Ads) : Lw := lwA [A.p_is_night, A.p_are_nights, A.p_are_turned]
/-- draws: any row of ints -/
def sp__law_draws : FL.Fn := fun cs q _ => match cs with
  | [.fz (.list ds)] => ∃ ns : List Int, ds = ns.map .int ∧ ns.length ≤ 63 ∧ ∀ ms : List Int, q (ms.map .int)
  | _ => False
theorem ok__law_draws (T : Txt K mg A) (B : Tbs mg base A) : FnOk P w K mg base (L2.CX P w) 1 A.a__law_draws A.d__law_draws ["script"] (SpfN K (LL A) sp__law_draws) := by
  refine fn_flatN T.f__law_draws sc__law_draws (by intro cs q r h; unfold sp__law_draws at h; first | (obtain ⟨_, rfl, _⟩ := h; rfl) | (obtain ⟨_, _, rfl, _⟩ := h; rfl) | (obtain ⟨_, _, _, rfl, _⟩ := h; rfl) | (obtain ⟨_, _, _, _, rfl, _⟩ := h; rfl) | (split at h <;> first | rfl | exact h.elim)) (fun cdv hcd A' outer s H E hr tk po => ?_)
  have nd := sc__law_draws.nd
  refine ⟨_, _, (fss_cons (fs_own (i := 1) nd (fn_lst fl_nil))
 (fss_cons (fs_for po rfl (fi_seq (fe_var 0)) (fg_name (i := 2) nd)
  (fss_cons (fs_set (i := 5) nd (fe_bi cal_abs T.n_abs (by decide +kernel) (fl_cons (fe_var 2) fl_nil)))
 (fss_cons (fs_if (ft_cmp cmd_lt (fb_var 5) (fb_fe (fe_pow fe_int fe_int)))
  (fss_cons (fs_set (i := 6) nd (fe_mod (fe_ty cal_int1 T.n_int (by decide +kernel) (fl_cons (fe_add (fe_mul (fe_var 5) fe_int) fe_int) fl_nil)) fe_int))
 (fss_cons (fs_app 1 (fe_mod (fe_ty cal_int1 T.n_int (by decide +kernel) (fl_cons (fe_add (fe_mul (fe_var 6) fe_int) (fe_var 5)) fl_nil)) fe_int))
 (fss_cons (fs_app 1 (fe_mod (fe_ty cal_int1 T.n_int (by decide +kernel) (fl_cons (fe_add (fe_var 6) (fe_div (fe_var 5) fe_int)) fl_nil)) fe_int))
 (fss_one (fs_set (i := 5) nd fe_int)))))
  fss_nil)
 (fss_one (fs_for po rfl (fi_rng1 T.n_range (fl_cons fe_int fl_nil)) (fg_name (i := 4) nd)
  (fss_one (fs_if (ft_cmp cmd_gt (fb_var 5) (fb_fe fe_int))
  (fss_cons (fs_app 1 (fe_mod (fe_ty cal_int1 T.n_int (by decide +kernel) (fl_cons (fe_var 5) fl_nil)) fe_int))
 (fss_one (fs_set (i := 5) nd (fe_div (fe_var 5) fe_int))))
  fss_nil)))))))
 (fss_cons (fs_set (i := 3) nd fe_int)
 (fss_cons (fs_if (ft_cmp cmd_gt (fb_fe (fe_bi1 cal_len T.n_len PySem.boot_len (fb_var 0))) (fb_fe fe_int))
  (fss_one (fs_set (i := 3) nd (fe_add fe_int (fe_bi cal_abs T.n_abs (by decide +kernel) (fl_cons (fe_ix (fb_var 0) fe_int) fl_nil)))))
  fss_nil)
 (fss_cons (fs_for po rfl (fi_rng1 T.n_range (fl_cons fe_int fl_nil)) (fg_name (i := 4) nd)
  (fss_cons (fs_set (i := 3) nd (fe_mod (fe_ty cal_int1 T.n_int (by decide +kernel) (fl_cons (fe_add (fe_mul (fe_var 3) fe_int) fe_int) fl_nil)) fe_int))
 (fss_one (fs_app 1 (fe_div (fe_var 3) fe_int)))))
 (fss_one (fs_retO (fn_listRev rfl T.n_list T.n_reversed (fb_var 1))))))))), ?_⟩
  clear hr tk po nd
  clear hcd
  intro cs q r h
  unfold sp__law_draws at h
  split at h
  case h_2 => exact h.elim
  obtain ⟨ns, rfl, h63, h⟩ := h
  have big : ∀ {k : Nat} {zs : List Int}, zs.length ≤ k → k ≤ 5000 → (zs.map PyData.int).length < sizeLine := fun {k zs} h1 h2 => by
    rw [List.length_map]
    exact Nat.lt_of_le_of_lt (Nat.le_trans h1 h2) (by decide)
  walk_at "wp"
  refine ⟨Nat.zero_le _, fun i s' => ∃ (ms : List Int) (x2 x3 x4 x5 x6 : Cel), ms.length ≤ 62 * i ∧ s' = [.fz (.list (ns.map .int)), .ow (ms.map .int), x2, x3, x4, x5, x6], ⟨[], _, _, _, _, _, Nat.le_refl _, rfl⟩, ?_, ?_⟩
  · rintro i d s' e ⟨ms, x2, x3, x4, x5, x6, hl, rfl⟩
    have hi : i < 63 := by
      have := (List.getElem?_eq_some_iff.mp e).1
      rw [List.length_map] at this
      omega
    rw [List.getElem?_map] at e
    cases en : ns[i]? with
    | none => rw [en] at e; cases e
    | some n =>
      rw [en] at e
      cases e
      have inner : ∀ (E : En) (ms : List Int) (num : Int) (x3 x4 x6 : Cel), ms.length ≤ 62 * i + 2 → (∀ s', (∃ (ms : List Int) (x2 x3 x4 x5 x6 : Cel), ms.length ≤ 62 * (i + 1) ∧ s' = [.fz (.list (ns.map .int)), .ow (ms.map .int), x2, x3, x4, x5, x6]) → E.nx s') → wForL (wgName 4)
          (wIfS (wCmpT (dO fun i j => decide (j < i)) (wVarB 5) (wC (.int 0)))
            (wSeq (wApp 1 (wOp (dI (fun x j => 0 < j) fun i j => i % j) (wCal dInt1 (wCons (wVar 5) wNil)) (wC (.int 997))))
              (wAsg (wOp (dI (fun x j => 0 < j ∧ DivOk j) fun i j => i / j) (wVar 5) (wC (.int 997))) (wgName 5))) wNext) (rngD 0 60)
          [.fz (.list (ns.map .int)), .ow (ms.map .int), .fz (.int n), x3, x4, .fz (.int num), x6] E := by
        intro E ms num x3 x4 x6 hm hE
        refine ⟨fun j s' => ∃ (ms : List Int) (num : Int) (x4 : Cel), ms.length ≤ 62 * i + 2 + j ∧ s' = [.fz (.list (ns.map .int)), .ow (ms.map .int), .fz (.int n), x3, x4, .fz (.int num), x6], ⟨ms, num, x4, hm, rfl⟩, ?_, ?_⟩
        · rintro j d s' e ⟨ms, num, x4, hm, rfl⟩
          have hj := (rng_get e).2
          walk_at "wp"
          refine cond_of (fun _ => ⟨by decide, big (k := 62 * i + 2 + j) hm (by omega), ⟨by decide, div_s (by decide) (by decide)⟩, ms ++ [num % 997], num / 997, .fz d, by rw [List.length_append, List.length_singleton]; omega, by rw [snoc_int]⟩) (fun _ => ⟨ms, num, .fz d, by omega, rfl⟩)
        · rintro s' ⟨ms, num, x4, hm, rfl⟩
          rw [rng_len] at hm
          exact hE _ ⟨ms, _, _, _, _, _, by omega, rfl⟩
      walk_at "wp"
      refine ⟨⟨by decide, by decide, by decide⟩, cond_of (fun _ => ⟨mul_r (by decide) (by decide), by decide, mul_r (by decide) (by decide), by decide, big hl (by omega), ⟨by decide, div_s (by decide) (by decide)⟩, by decide, ?_, ⟨by decide, by decide⟩, ?_⟩) (fun _ => ⟨⟨by decide, by decide⟩, ?_⟩)⟩
      · rw [snoc_int]
        exact big (k := 62 * i + 1) (by rw [List.length_append, List.length_singleton]; omega) (by omega)
      · rw [snoc_int, snoc_int]
        exact inner _ _ _ _ _ _ (by rw [List.length_append, List.length_append, List.length_singleton, List.length_singleton]; omega) fun _ h => h
      · exact inner _ _ _ _ _ _ (by omega) fun _ h => h
  · rintro s' ⟨ms, x2, x3, x4, x5, x6, hl, rfl⟩
    rw [List.length_map] at hl
    have last : ∀ (E : En) (seed : Int) (x4 : Cel), (∀ (ms : List Int) x2 x3 x4 x5 x6, E.nx [.fz (.list (ns.map .int)), .ow (ms.map .int), x2, x3, x4, x5, x6]) → wForL (wgName 4)
          (wSeq (wAsg (wOp (dI (fun x j => 0 < j) fun i j => i % j) (wCal dInt1 (wCons (wOp dAdd (wOp (dI FL.MulOk fun i j => i * j) (wVar 3) (wC (.int 48271))) (wC (.int 69621))) wNil)) (wC (.int 2147483647))) (wgName 3))
            (wApp 1 (wOp (dI (fun x j => 0 < j ∧ DivOk j) fun i j => i / j) (wVar 3) (wC (.int 5))))) (rngD 0 900)
          [.fz (.list (ns.map .int)), .ow (ms.map .int), x2, .fz (.int seed), x4, x5, x6] E := by
      intro E seed x4 hE
      refine ⟨fun j s' => ∃ (ms : List Int) (seed : Int) (x4 : Cel), ms.length ≤ 3906 + j ∧ s' = [.fz (.list (ns.map .int)), .ow (ms.map .int), x2, .fz (.int seed), x4, x5, x6], ⟨ms, seed, x4, by omega, rfl⟩, ?_, ?_⟩
      · rintro j d s' e ⟨ms, seed, x4, hm, rfl⟩
        have hj := (rng_get e).2
        walk_at "wp"
        refine ⟨mul_r (by decide) (by decide), by decide, ⟨by decide, div_s (by decide) (by decide)⟩, big hm (by omega), ms ++ [(seed * 48271 + 69621) % 2147483647 / 5], (seed * 48271 + 69621) % 2147483647, .fz d, by rw [List.length_append, List.length_singleton]; omega, by rw [snoc_int]⟩
      · rintro s' ⟨ms, seed, x4, hm, rfl⟩
        exact hE _ _ _ _ _ _
    have fin : ∀ (ms : List Int), q (ms.map PyData.int).reverse := fun ms => by
      rw [← List.map_reverse]
      exact h _
    walk_at "wp"
    refine cond_of (fun hc => ?_) (fun _ => ⟨⟨by decide, by decide⟩, last _ _ _ fun ms _ _ _ _ _ => fin ms⟩)
    cases ns with
    | nil => exact absurd hc (by decide)
    | cons n ns =>
      exact ix_int (d := .int n) (by decide) rfl ⟨⟨by decide, by decide⟩, last _ _ _ fun ms _ _ _ _ _ => fin ms⟩
theorem ok__law_take (T : Txt K mg A) (B : Tbs mg base A) : FnOk P w K mg base (L2.CX P w) 1 A.a__law_take A.d__law_take ["draws", "bound"] (Spf K (LL A) spTake) :=
  fn_take T.f__law_take sc__law_take T.n_len T.n_int (fun X hm hs hN => by
    have nl := (congrFun hm ("len" : Str)).trans T.n_len
    have ni := (congrFun hm ("int" : Str)).trans T.n_int
    have gl : Gl X "len" := (congrArg (fun z : Scope => z.names.lookup ("len" : Str)) hs).trans rfl
    have gi : Gl X "int" := (congrArg (fun z : Scope => z.names.lookup ("int" : Str)) hs).trans rfl
    have s0 : X.N[0]? = some ("draws" : Str) := by rw [hN]; rfl
    have s1 : X.N[1]? = some ("bound" : Str) := by rw [hN]; rfl
    have v0 : Vis X.env.scope "draws" := .inl ((congrArg (fun z : Scope => z.names.lookup ("draws" : Str)) hs).trans rfl)
    have v1 : Vis X.env.scope "bound" := .inl ((congrArg (fun z : Scope => z.names.lookup ("bound" : Str)) hs).trans rfl)
    exact pss_cons (ps_if (pt_cmpR op_eq (pe_callB call_len gl nl PySem.boot_len (pa_cons (pe_var s0 v0) pa_nil)) pe_int (nomark _)) (pss_one (ps_ret pe_int)) pss_nil)
      (pss_one (ps_ret (pe_op op_mod (pe_callTy call_int1 gi ni (by decide +kernel) (pa_cons (pe_bm0 PySem.F.plainAttrs_list PySem.F.slot_list_pop PySem.F.type_list_pop mt_pop (pe_var s0 v0)) pa_nil)) (pe_var s1 v1)))))
/-- an int between the bounds, no bool -/
def isNum (d : D) (a b : Int) : Bool := match d with
  | .int i => decide (a ≤ i) && decide (i ≤ b)
  | _ => false
def sp_is_number : Fs := fun cs q _ => match cs with
  | [.fz d, .fz (.int a), .fz (.int b)] => q (.bool (isNum d a b))
  | _ => False
theorem ok_is_number (T : Txt K mg A) (B : Tbs mg base A) : FnOk P w K mg base (L2.CX P w) 1 A.a_is_number A.d_is_number ["value", "least", "most"] (Spf K (LL A) sp_is_number) := by
  refine fn_flat T.f_is_number sc_is_number (by intro cs q r h; unfold sp_is_number at h; first | (obtain ⟨_, rfl, _⟩ := h; rfl) | (obtain ⟨_, _, rfl, _⟩ := h; rfl) | (obtain ⟨_, _, _, rfl, _⟩ := h; rfl) | (obtain ⟨_, _, _, _, rfl, _⟩ := h; rfl) | (split at h <;> first | rfl | exact h.elim)) (fun cdv hcd A' outer s H E hr tk po => ?_)
  have nd := sc_is_number.nd
  refine ⟨_, _, (fss_one (fs_ret (fe_andV (fe_isi isi_int T.n_isinstance bt_isinstance T.n_int (by decide +kernel) (fb_var 0)) (fe_andV (fe_not (fb_fe (fe_isi isi_bool T.n_isinstance bt_isinstance T.n_bool (by decide +kernel) (fb_var 0)))) (fe_one (fe_chain cmd_le cmd_le (fe_var 1) (fe_var 0) (fe_var 2))))))), ?_⟩
  clear hr tk po nd
  clear hcd
  intro cs q r h
  unfold sp_is_number at h
  split at h
  case h_2 => exact h.elim
  rename_i d a b
  cases d <;> walk_at "wp" <;> walk_at "sm" <;> (try exact h)
  refine ⟨fun z => ?_, fun z => ?_⟩ <;> simpa [isNum, z] using h
def gcdI (a b : Int) : Int := ((Nat.gcd a.natAbs b.natAbs : Nat) : Int)
theorem gcdI_pos {p w : Int} (h : 0 < w) : 0 < gcdI p w ∧ gcdI p w ≤ w := by
  unfold gcdI
  have h1 : 0 < w.natAbs := by omega
  have h2 := Nat.gcd_pos_of_pos_right p.natAbs h1
  have h3 := Nat.gcd_le_right p.natAbs h1
  omega
theorem gcdI_mod {o t : Int} (h : 0 ≤ o) (ht : 0 < t) : gcdI t (o % t) = gcdI o t := by
  obtain ⟨a, rfl⟩ := Int.eq_ofNat_of_zero_le h
  obtain ⟨b, rfl⟩ := Int.eq_ofNat_of_zero_le (Int.le_of_lt ht)
  show ((Nat.gcd b (a % b) : Nat) : Int) = ((Nat.gcd a b : Nat) : Int)
  rw [Nat.gcd_comm b, ← Nat.gcd_rec, Nat.gcd_comm]
theorem gcdI_zero {o : Int} (h : 0 ≤ o) : gcdI o 0 = o := by
  unfold gcdI
  rw [Int.natAbs_zero, Nat.gcd_zero_right]
  omega
def lowD (p w : Int) : D := .tuple [.int (p / gcdI p w), .int (w / gcdI p w)]
def sp_lowest : Fs := fun cs q _ => match cs with
  | [.fz (.int p), .fz (.int w)] => (0 < w ∧ w < 2 ^ 63) ∧ q (lowD p w)
  | _ => False
theorem ok_lowest (T : Txt K mg A) (B : Tbs mg base A) : FnOk P w K mg base (L2.CX P w) 1 A.a_lowest A.d_lowest ["part", "whole"] (Spf K (LL A) sp_lowest) := by
  refine fn_flat T.f_lowest sc_lowest (by intro cs q r h; unfold sp_lowest at h; first | (obtain ⟨_, rfl, _⟩ := h; rfl) | (obtain ⟨_, _, rfl, _⟩ := h; rfl) | (obtain ⟨_, _, _, rfl, _⟩ := h; rfl) | (obtain ⟨_, _, _, _, rfl, _⟩ := h; rfl) | (split at h <;> first | rfl | exact h.elim)) (fun cdv hcd A' outer s H E hr tk po => ?_)
  have nd := sc_lowest.nd
  refine ⟨_, _, (fss_cons (fs_set (i := 2) nd (fe_gcd T.i_gcd (fl_cons (fe_var 0) (fl_cons (fe_var 1) fl_nil))))
 (fss_cons (fs_if (ft_cmp cmd_lt (fb_var 1) (fb_fe fe_int))
  (fss_one (fs_set (i := 2) nd (fe_neg (fe_var 2))))
  fss_nil)
 (fss_one (fs_ret (fe_tup (fl_cons (fe_div (fe_var 0) (fe_var 2)) (fl_cons (fe_div (fe_var 1) (fe_var 2)) fl_nil))))))), ?_⟩
  clear hr tk po nd
  clear hcd
  intro cs q r h
  unfold sp_lowest at h
  split at h
  case h_2 => exact h.elim
  rename_i p w
  obtain ⟨⟨h1, h2⟩, h⟩ := h
  walk_at "wp"
  walk_at "sm"
  obtain ⟨g1, g2⟩ := gcdI_pos (p := p) h1
  unfold gcdI at g1 g2
  exact ⟨fun z => absurd z (by omega), fun _ => ⟨⟨g1, div_s (by omega) (by omega)⟩, ⟨g1, div_s (by omega) (by omega)⟩, by decide, h⟩⟩
def sp_less : Fs := fun cs q _ => match cs with
  | [.fz (.tuple [.int a, .int b]), .fz (.tuple [.int c, .int d])] => (FL.MulOk a d ∧ FL.MulOk c b) ∧ q (.bool (decide (a * d < c * b)))
  | _ => False
theorem ok_less (T : Txt K mg A) (B : Tbs mg base A) : FnOk P w K mg base (L2.CX P w) 1 A.a_less A.d_less ["one", "other"] (Spf K (LL A) sp_less) := by
  refine fn_flat T.f_less sc_less (by intro cs q r h; unfold sp_less at h; first | (obtain ⟨_, rfl, _⟩ := h; rfl) | (obtain ⟨_, _, rfl, _⟩ := h; rfl) | (obtain ⟨_, _, _, rfl, _⟩ := h; rfl) | (obtain ⟨_, _, _, _, rfl, _⟩ := h; rfl) | (split at h <;> first | rfl | exact h.elim)) (fun cdv hcd A' outer s H E hr tk po => ?_)
  have nd := sc_less.nd
  refine ⟨_, _, (fss_one (fs_ret (fe_cmp cmd_lt (fb_fe (fe_mul (fe_ix (fb_var 0) fe_int) (fe_ix (fb_var 1) fe_int))) (fb_fe (fe_mul (fe_ix (fb_var 1) fe_int) (fe_ix (fb_var 0) fe_int)))))), ?_⟩
  clear hr tk po nd
  clear hcd
  intro cs q r h
  unfold sp_less at h
  split at h
  case h_2 => exact h.elim
  walk_at "wp"
  walk_at "sm"
  exact ⟨h.1.1, h.1.2, h.2⟩
def isNight (d : D) : Bool := match d with
  | .tuple [a, b, c, e] => isNum a 0 100 && isNum b 1 24 && isNum c 0 100 && isNum e 1 24
  | _ => false
def sp_is_night : Fs := fun cs q _ => match cs with
  | [.fz d] => q (.bool (isNight d))
  | _ => False
local macro_rules | `(tactic| walk_at "wp") => `(tactic| try dsimp only [u_seq, u_next, u_drop, u_ret, u_retO, u_ifS, u_asg, u_setO, u_par, u_par3, u_parO, u_par3O, u_parOc, u_aug, u_for, u_app, u_fix, u_gname, l_map1, l_map0, b_nt, b_nf, c_t, c_f, wVar, wVarB, wC, wOp, dI, dI0, dAdd, wNeg, wCmpV, wCmpT, dEq, dNe, dO, isNoneD, dIsN, dNotN, wAndT, wOrT, wNotT, truOk, truD, wTruT, wNotV, wAndV, wOrV, wIf, wChain, wBoolV, wIx, wNil, wCons, wTup, wLst, wN, wANil, wACons, wADr, wCall, wCallN, wgNil, wgCons, wgTup, wSeqI, seqD, wRng1, wRng2, wRng3, wCal, dAbs, dMax2, dMin2, dInt1, wCalB, dLen, isIntD, isBoolD, isStrD, isTupD, isLstD, wIsi, wLRev, wListA, dTupA, startS, wO0, wO1, dSl, wSl, wSlN, wRepN, wRepT, dIn, dGcd, dIntsL, wStar, wSeti, wUnDr, wSetDr, spDraw, dBest, wSetL, wLc, wAll, wAny, wYes, stpAll, stpAny, u_wipe0, u_wipe1, u_lk0, u_lk1, lkC, spTake, List.getElem?_cons_zero, List.getElem?_cons_succ, List.getElem?_nil, List.set_cons_zero, List.set_cons_succ, List.length_cons, List.length_nil, List.replicate_succ, List.replicate_zero, List.cons_append, List.nil_append, Nat.reduceAdd, Nat.reduceSub, sp_is_number])
theorem ok_is_night (T : Txt K mg A) (B : Tbs mg base A) : FnOk P w K mg base (L2.CX P w) 3 A.a_is_night A.d_is_night ["value"] (Spf K (LL A) sp_is_night) := by
  refine fn_flat T.f_is_night sc_is_night (by intro cs q r h; unfold sp_is_night at h; first | (obtain ⟨_, rfl, _⟩ := h; rfl) | (obtain ⟨_, _, rfl, _⟩ := h; rfl) | (obtain ⟨_, _, _, rfl, _⟩ := h; rfl) | (obtain ⟨_, _, _, _, rfl, _⟩ := h; rfl) | (split at h <;> first | rfl | exact h.elim)) (fun cdv hcd A' outer s H E hr tk po => ?_)
  have hco := hcd.symm.trans T.k_is_night
  have nd := sc_is_night.nd
  refine ⟨_, _, (fss_cons (fs_if (ft_w (fw_or (ft_not (ft_truth (fb_fe (fe_isi isi_tup T.n_isinstance bt_isinstance T.n_tuple (by decide +kernel) (fb_var 0))))) (fw_or1 (ft_cmp (cmd_ne hr) (fb_fe (fe_bi1 cal_len T.n_len PySem.boot_len (fb_var 0))) (fb_fe fe_int)))))
  (fss_one (fs_ret fe_bl))
  fss_nil)
 (fss_one (fs_ret (fe_all (k := 1) (own := [("at", 1)]) B.t_is_night hco (.head _) nd (hr.mono (by decide)) T.n_all (by decide +kernel) (fi_rng1 T.n_range (fl_cons fe_int fl_nil)) ⟨rfl, by decide +kernel, rfl⟩ (blkOk_by (by kernel_rfl)) (fun Ag s H C cl code fp pn hr => (by apply FGc.cast; (case h => exact (fc_name (i := 1) nd (by decide))); (case q => (try dsimp only [FLG.gbx, Cx.blk]) <;> exact rfl))) (fun Ag s H C cl code fp pn hr => (by apply FTs.cast; (case h => exact fts_nil); (case q => (try dsimp only [FLG.gbx, Cx.blk]) <;> exact rfl))) (fun Ag s H C cl code fp pn hr => (by apply FE.cast; (case h => exact (fe_call (ok_is_number T B) (hr.mono (by decide)) (takes_wf) rfl T.m_is_number T.f_is_number.kp T.b_is_number (fa_cons (fe_ix (fb_var 0) (fe_var 1)) (fa_cons (fe_mod (fe_var 1) fe_int) (fa_cons (fe_if (ft_cmp (cmd_eq hr) (fb_fe (fe_mod (fe_var 1) fe_int)) (fb_fe fe_int)) (fe_glb T.g_MOST_SEEN) (fe_glb T.g_MOST_HOURS)) fa_nil))))); (case q => (try dsimp only [FLG.gbx, Cx.blk]) <;> exact rfl))))))), ?_⟩
  clear hr tk po nd
  clear hcd hco
  intro cs q r h
  unfold sp_is_night at h
  split at h
  case h_2 => exact h.elim
  rename_i d
  cases d
  case tuple ds =>
    walk_at "wp"
    walk_at "sm"
    refine ⟨fun hl => ⟨⟨by decide, by decide⟩, ?_⟩, fun hl => ?_⟩
    · obtain ⟨a, b, c, e, rfl⟩ : ∃ a b c e, ds = [a, b, c, e] := by
        have : ds.length = 4 := by omega
        match ds, this with
        | [a, b, c, e], _ => exact ⟨a, b, c, e, rfl⟩
      refine all_by (fun d => match d with | .int k => isNum ([a, b, c, e].getD k.toNat .none) (k % 2) (if k % 2 = 0 then 100 else 24) | _ => false) (fun d hd A B hA hB => ?_) ?_
      · obtain ⟨k, hk, rfl⟩ := mem_rng hd
        walk_at "wp"
        walk_at "sm"
        have hk : k < 4 := hk
        rcases (show k = 0 ∨ k = 1 ∨ k = 2 ∨ k = 3 by omega) with rfl | rfl | rfl | rfl <;> refine ⟨_, rfl, ?_⟩ <;> walk_at "wp" <;> walk_at "sm" <;> refine ⟨by decide, by decide, ?_⟩ <;> first
          | exact ⟨fun _ => cond_of (fun z => hB (by simpa using z)) (fun z => hA (by simpa using z)), fun z => absurd rfl z⟩
          | exact ⟨fun z => absurd z (by decide), fun _ => cond_of (fun z => hB (by simpa using z)) (fun z => hA (by simpa using z))⟩
      · have e : (rngD 0 (Int.toNat 4)).all (fun d => match d with | .int k => isNum ([a, b, c, e].getD k.toNat .none) (k % 2) (if k % 2 = 0 then 100 else 24) | _ => false) = isNight (.tuple [a, b, c, e]) := by
          simp [rngD, List.range_succ, isNight, Bool.and_assoc]
        rw [e]; exact h
    · have : isNight (.tuple ds) = false := by
        unfold isNight
        split
        · rename_i e
          cases e
          exact absurd rfl hl
        · rfl
      rw [this] at h; exact h
  all_goals
    walk_at "wp"
    walk_at "sm"
    (try exact h)
def areNights (d : D) : Bool := match d with
  | .tuple ds => decide (1 ≤ ds.length) && decide (ds.length ≤ 7) && ds.all isNight
  | _ => false
def sp_are_nights : Fs := fun cs q _ => match cs with
  | [.fz d] => q (.bool (areNights d))
  | _ => False
local macro_rules | `(tactic| walk_at "wp") => `(tactic| try dsimp only [u_seq, u_next, u_drop, u_ret, u_retO, u_ifS, u_asg, u_setO, u_par, u_par3, u_parO, u_par3O, u_parOc, u_aug, u_for, u_app, u_fix, u_gname, l_map1, l_map0, b_nt, b_nf, c_t, c_f, wVar, wVarB, wC, wOp, dI, dI0, dAdd, wNeg, wCmpV, wCmpT, dEq, dNe, dO, isNoneD, dIsN, dNotN, wAndT, wOrT, wNotT, truOk, truD, wTruT, wNotV, wAndV, wOrV, wIf, wChain, wBoolV, wIx, wNil, wCons, wTup, wLst, wN, wANil, wACons, wADr, wCall, wCallN, wgNil, wgCons, wgTup, wSeqI, seqD, wRng1, wRng2, wRng3, wCal, dAbs, dMax2, dMin2, dInt1, wCalB, dLen, isIntD, isBoolD, isStrD, isTupD, isLstD, wIsi, wLRev, wListA, dTupA, startS, wO0, wO1, dSl, wSl, wSlN, wRepN, wRepT, dIn, dGcd, dIntsL, wStar, wSeti, wUnDr, wSetDr, spDraw, dBest, wSetL, wLc, wAll, wAny, wYes, stpAll, stpAny, u_wipe0, u_wipe1, u_lk0, u_lk1, lkC, spTake, List.getElem?_cons_zero, List.getElem?_cons_succ, List.getElem?_nil, List.set_cons_zero, List.set_cons_succ, List.length_cons, List.length_nil, List.replicate_succ, List.replicate_zero, List.cons_append, List.nil_append, Nat.reduceAdd, Nat.reduceSub, sp_is_night])
theorem ok_are_nights (T : Txt K mg A) (B : Tbs mg base A) : FnOk P w K mg base (L2.CX P w) 5 A.a_are_nights A.d_are_nights ["value"] (Spf K (LL A) sp_are_nights) := by
  refine fn_flat T.f_are_nights sc_are_nights (by intro cs q r h; unfold sp_are_nights at h; first | (obtain ⟨_, rfl, _⟩ := h; rfl) | (obtain ⟨_, _, rfl, _⟩ := h; rfl) | (obtain ⟨_, _, _, rfl, _⟩ := h; rfl) | (obtain ⟨_, _, _, _, rfl, _⟩ := h; rfl) | (split at h <;> first | rfl | exact h.elim)) (fun cdv hcd A' outer s H E hr tk po => ?_)
  have hco := hcd.symm.trans T.k_are_nights
  have nd := sc_are_nights.nd
  refine ⟨_, _, (fss_one (fs_ret (fe_andV (fe_isi isi_tup T.n_isinstance bt_isinstance T.n_tuple (by decide +kernel) (fb_var 0)) (fe_andV (fe_chain cmd_le cmd_le fe_int (fe_bi1 cal_len T.n_len PySem.boot_len (fb_var 0)) (fe_glb T.g_MOST_NIGHTS)) (fe_one (fe_all (k := 3) (own := [("one", 1)]) B.t_are_nights hco (.tail _ (.head _)) nd (hr.mono (by decide)) T.n_all (by decide +kernel) (fi_seq (fe_var 0)) ⟨rfl, by decide +kernel, rfl⟩ (blkOk_by (by kernel_rfl)) (fun Ag s H C cl code fp pn hr => (by apply FGc.cast; (case h => exact (fc_name (i := 1) nd (by decide))); (case q => (try dsimp only [FLG.gbx, Cx.blk]) <;> exact rfl))) (fun Ag s H C cl code fp pn hr => (by apply FTs.cast; (case h => exact fts_nil); (case q => (try dsimp only [FLG.gbx, Cx.blk]) <;> exact rfl))) (fun Ag s H C cl code fp pn hr => (by apply FE.cast; (case h => exact (fe_call (ok_is_night T B) (hr.mono (by decide)) (takes_wf) rfl T.m_is_night T.f_is_night.kp T.b_is_night (fa_cons (fe_var 1) fa_nil))); (case q => (try dsimp only [FLG.gbx, Cx.blk]) <;> exact rfl))))))))), ?_⟩
  clear hr tk po nd
  clear hcd hco
  intro cs q r h
  unfold sp_are_nights at h
  split at h
  case h_2 => exact h.elim
  rename_i d
  cases d
  case tuple ds =>
    walk_at "wp"
    walk_at "sm"
    unfold areNights at h
    dsimp only at h
    refine ⟨fun h1 => ⟨fun h2 => ?_, fun h2 => ?_⟩, fun h1 => ?_⟩
    · rw [decide_eq_true (by omega : 1 ≤ ds.length), decide_eq_true (by omega : ds.length ≤ 7), Bool.true_and, Bool.true_and] at h
      refine all_by isNight (fun d hd A B hA hB => ?_) h
      walk_at "wp"
      cases e : isNight d with
      | true => exact hB e
      | false => exact hA e
    · rw [decide_eq_false (by omega : ¬ ds.length ≤ 7), Bool.and_false, Bool.false_and] at h
      rw [decide_eq_false h2]; exact h
    · rw [decide_eq_false (by omega : ¬ 1 ≤ ds.length), Bool.false_and, Bool.false_and] at h
      exact h
  all_goals
    walk_at "wp"
    walk_at "sm"
    (try exact h)
abbrev Nt := Int × Int × Int × Int
def dN (n : Nt) : D := .tuple [.int n.1, .int n.2.1, .int n.2.2.1, .int n.2.2.2]
def okN (n : Nt) : Prop := (0 ≤ n.1 ∧ n.1 ≤ 100) ∧ (1 ≤ n.2.1 ∧ n.2.1 ≤ 24) ∧ (0 ≤ n.2.2.1 ∧ n.2.2.1 ≤ 100) ∧ (1 ≤ n.2.2.2 ∧ n.2.2.2 ≤ 24)
def nt0 : Nt := (0, 1, 0, 1)
def seen (w : Int) (n : Nt) : Int := if w = 0 then n.1 else n.2.2.1
def hrs (w : Int) (n : Nt) : Int := if w = 0 then n.2.1 else n.2.2.2
def sumS (ns : List Nt) (w : Int) (is : List Nat) : Int := (is.map fun i => seen w (ns.getD i nt0)).sum
def sumH (ns : List Nt) (w : Int) (is : List Nat) : Int := (is.map fun i => hrs w (ns.getD i nt0)).sum
def dI' (i : Nat) : D := .int (i : Int)
def okNs (ns : List Nt) : Prop := ns.length ≤ 7 ∧ ∀ n ∈ ns, okN n
def okI (ns : List Nt) (is : List Nat) : Prop := is ≠ [] ∧ is.length ≤ 100 ∧ ∀ i ∈ is, i < ns.length
theorem sum_bd {f : Nat → Int} {is : List Nat} {lo hi : Int} (h : ∀ i ∈ is, lo ≤ f i ∧ f i ≤ hi) : lo * is.length ≤ (is.map f).sum ∧ (is.map f).sum ≤ hi * is.length := by
  induction is with
  | nil => simp
  | cons a is ih =>
    have h1 := h a List.mem_cons_self
    have h2 := ih fun i hi => h i (List.mem_cons_of_mem _ hi)
    rw [List.map_cons, List.sum_cons, List.length_cons]
    have e : ∀ c : Int, c * ((is.length + 1 : Nat) : Int) = c + c * is.length := fun c => by rw [Int.natCast_add, Int.mul_add]; omega
    rw [e, e]
    omega
theorem getD_ok {ns : List Nt} {i : Nat} (h : okNs ns) (hi : i < ns.length) : okN (ns.getD i nt0) := by
  rw [List.getD_eq_getElem?_getD, List.getElem?_eq_getElem hi]
  exact h.2 _ (List.getElem_mem hi)
theorem sumH_bd {ns : List Nt} {w : Int} {is : List Nat} (h : okNs ns) (hi : okI ns is) : 1 ≤ sumH ns w is ∧ sumH ns w is ≤ 2400 := by
  have := sum_bd (f := fun i => hrs w (ns.getD i nt0)) (is := is) (lo := 1) (hi := 24) fun i hm => by
    have := getD_ok h (hi.2.2 i hm)
    unfold hrs okN at *
    split <;> omega
  have h1 : 0 < is.length := List.length_pos_iff.mpr hi.1
  have h2 := hi.2.1
  unfold sumH
  omega
theorem sumS_bd {ns : List Nt} {w : Int} {is : List Nat} (h : okNs ns) (hi : okI ns is) : 0 ≤ sumS ns w is ∧ sumS ns w is ≤ 10000 := by
  have := sum_bd (f := fun i => seen w (ns.getD i nt0)) (is := is) (lo := 0) (hi := 100) fun i hm => by
    have := getD_ok h (hi.2.2 i hm)
    unfold seen okN at *
    split <;> omega
  have h2 := hi.2.1
  unfold sumS
  omega
def sp_rate_over : Fs := fun cs q _ => ∃ ns w is, cs = [.fz (.tuple (List.map dN ns)), .fz (.int w), .fz (.tuple (List.map dI' is))] ∧ (w = 0 ∨ w = 1) ∧ okNs ns ∧ okI ns is ∧ q (lowD (sumS ns w is) (sumH ns w is))
local macro_rules | `(tactic| walk_at "wp") => `(tactic| try dsimp only [u_seq, u_next, u_drop, u_ret, u_retO, u_ifS, u_asg, u_setO, u_par, u_par3, u_parO, u_par3O, u_parOc, u_aug, u_for, u_app, u_fix, u_gname, l_map1, l_map0, b_nt, b_nf, c_t, c_f, wVar, wVarB, wC, wOp, dI, dI0, dAdd, wNeg, wCmpV, wCmpT, dEq, dNe, dO, isNoneD, dIsN, dNotN, wAndT, wOrT, wNotT, truOk, truD, wTruT, wNotV, wAndV, wOrV, wIf, wChain, wBoolV, wIx, wNil, wCons, wTup, wLst, wN, wANil, wACons, wADr, wCall, wCallN, wgNil, wgCons, wgTup, wSeqI, seqD, wRng1, wRng2, wRng3, wCal, dAbs, dMax2, dMin2, dInt1, wCalB, dLen, isIntD, isBoolD, isStrD, isTupD, isLstD, wIsi, wLRev, wListA, dTupA, startS, wO0, wO1, dSl, wSl, wSlN, wRepN, wRepT, dIn, dGcd, dIntsL, wStar, wSeti, wUnDr, wSetDr, spDraw, dBest, wSetL, wLc, wAll, wAny, wYes, stpAll, stpAny, u_wipe0, u_wipe1, u_lk0, u_lk1, lkC, spTake, List.getElem?_cons_zero, List.getElem?_cons_succ, List.getElem?_nil, List.set_cons_zero, List.set_cons_succ, List.length_cons, List.length_nil, List.replicate_succ, List.replicate_zero, List.cons_append, List.nil_append, Nat.reduceAdd, Nat.reduceSub, sp_lowest])
theorem ok_rate_over (T : Txt K mg A) (B : Tbs mg base A) : FnOk P w K mg base (L2.CX P w) 2 A.a_rate_over A.d_rate_over ["nights", "watcher", "some"] (Spf K (LL A) sp_rate_over) := by
  refine fn_flat T.f_rate_over sc_rate_over (by intro cs q r h; unfold sp_rate_over at h; first | (obtain ⟨_, rfl, _⟩ := h; rfl) | (obtain ⟨_, _, rfl, _⟩ := h; rfl) | (obtain ⟨_, _, _, rfl, _⟩ := h; rfl) | (obtain ⟨_, _, _, _, rfl, _⟩ := h; rfl) | (split at h <;> first | rfl | exact h.elim)) (fun cdv hcd A' outer s H E hr tk po => ?_)
  have nd := sc_rate_over.nd
  refine ⟨_, _, (fss_cons (fs_set (i := 3) nd (fe_bi1 cal_sum T.n_sum (by decide +kernel) (fb_fe (fe_n (fn_lc (own := [("number", 4)]) rfl nd (fi_seq (fe_var 2)) (blkOk_by (by kernel_rfl)) (fun s H C cl fp => (by apply FGc.cast; (case h => exact (fc_name (i := 4) nd (by decide))); (case q => (try dsimp only [FLG.gbx, Cx.blk]) <;> exact rfl))) (fun s H C cl fp => (by apply FTs.cast; (case h => exact fts_nil); (case q => (try dsimp only [FLG.gbx, Cx.blk]) <;> exact rfl))) (fun s H C cl fp => (by apply FE.cast; (case h => exact (fe_ix (fb_fe (fe_ix (fb_var 0) (fe_var 4))) (fe_mul fe_int (fe_var 1)))); (case q => (try dsimp only [FLG.gbx, Cx.blk]) <;> exact rfl))))))))
 (fss_one (fs_ret (fe_call (ok_lowest T B) (hr.mono (by decide)) tk rfl T.m_lowest T.f_lowest.kp T.b_lowest (fa_cons (fe_var 3) (fa_cons (fe_bi1 cal_sum T.n_sum (by decide +kernel) (fb_fe (fe_n (fn_lc (own := [("number", 4)]) rfl nd (fi_seq (fe_var 2)) (blkOk_by (by kernel_rfl)) (fun s H C cl fp => (by apply FGc.cast; (case h => exact (fc_name (i := 4) nd (by decide))); (case q => (try dsimp only [FLG.gbx, Cx.blk]) <;> exact rfl))) (fun s H C cl fp => (by apply FTs.cast; (case h => exact fts_nil); (case q => (try dsimp only [FLG.gbx, Cx.blk]) <;> exact rfl))) (fun s H C cl fp => (by apply FE.cast; (case h => exact (fe_ix (fb_fe (fe_ix (fb_var 0) (fe_var 4))) (fe_add (fe_mul fe_int (fe_var 1)) fe_int))); (case q => (try dsimp only [FLG.gbx, Cx.blk]) <;> exact rfl))))))) fa_nil)))))), ?_⟩
  clear hr tk po nd
  clear hcd
  rintro cs q r ⟨ns, w, is, rfl, hw, hn, hi, h⟩
  walk_at "wp"
  have hl : (List.map dI' is).length ≤ sizeLine := by
    rw [List.length_map]
    exact Nat.le_trans hi.2.1 (by decide)
  refine lc_map (fun d => match d with | .int k => .int (seen w (ns.getD k.toNat nt0)) | _ => d) hl (fun d hd acc J hJ => ?_) ?_
  · obtain ⟨i, him, rfl⟩ := List.mem_map.mp hd
    have hil := hi.2.2 i him
    have hx : (List.map dN ns)[i]? = some (dN (ns.getD i nt0)) := by
      rw [List.getElem?_map, List.getElem?_eq_getElem hil, List.getD_eq_getElem?_getD, List.getElem?_eq_getElem hil]; rfl
    unfold dI' at hJ ⊢
    walk_at "wp"
    refine ix_nat hx ?_
    unfold dN
    rcases hw with rfl | rfl
    · exact ⟨mul_l (by decide) (by decide), _, rfl, hJ⟩
    · exact ⟨mul_l (by decide) (by decide), _, rfl, hJ⟩
  · refine ⟨is.map fun i => seen w (ns.getD i nt0), by simp [dI', Function.comp_def], ?_⟩
    refine lc_map (fun d => match d with | .int k => .int (hrs w (ns.getD k.toNat nt0)) | _ => d) hl (fun d hd acc J hJ => ?_) ?_
    · obtain ⟨i, him, rfl⟩ := List.mem_map.mp hd
      have hil := hi.2.2 i him
      have hx : (List.map dN ns)[i]? = some (dN (ns.getD i nt0)) := by
        rw [List.getElem?_map, List.getElem?_eq_getElem hil, List.getD_eq_getElem?_getD, List.getElem?_eq_getElem hil]; rfl
      unfold dI' at hJ ⊢
      walk_at "wp"
      refine ix_nat hx ?_
      unfold dN
      rcases hw with rfl | rfl
      · exact ⟨mul_l (by decide) (by decide), _, rfl, hJ⟩
      · exact ⟨mul_l (by decide) (by decide), _, rfl, hJ⟩
    · have b := sumH_bd (w := w) hn hi
      refine ⟨is.map fun i => hrs w (ns.getD i nt0), by simp [dI', Function.comp_def], ⟨?_, ?_⟩, h⟩
      · show 0 < sumH ns w is
        omega
      · show sumH ns w is < 2 ^ 63
        omega
theorem low_lt {p w p' w' : Int} (hw : 0 < w) (hw' : 0 < w') : (p / gcdI p w * (w' / gcdI p' w') < p' / gcdI p' w' * (w / gcdI p w)) ↔ p * w' < p' * w := by
  obtain ⟨g0, _⟩ := gcdI_pos (p := p) hw
  obtain ⟨g0', _⟩ := gcdI_pos (p := p') hw'
  have d1 : gcdI p w ∣ p := by unfold gcdI; exact Int.ofNat_dvd_left.mpr (Nat.gcd_dvd_left _ _)
  have d2 : gcdI p w ∣ w := by unfold gcdI; exact Int.ofNat_dvd_left.mpr (Nat.gcd_dvd_right _ _)
  have d3 : gcdI p' w' ∣ p' := by unfold gcdI; exact Int.ofNat_dvd_left.mpr (Nat.gcd_dvd_left _ _)
  have d4 : gcdI p' w' ∣ w' := by unfold gcdI; exact Int.ofNat_dvd_left.mpr (Nat.gcd_dvd_right _ _)
  generalize gcdI p w = g at *
  generalize gcdI p' w' = g' at *
  obtain ⟨a, rfl⟩ := d1
  obtain ⟨b, rfl⟩ := d2
  obtain ⟨c, rfl⟩ := d3
  obtain ⟨d, rfl⟩ := d4
  rw [Int.mul_ediv_cancel_left _ (by omega), Int.mul_ediv_cancel_left _ (by omega), Int.mul_ediv_cancel_left _ (by omega), Int.mul_ediv_cancel_left _ (by omega)]
  have hg : 0 < g * g' := Int.mul_pos g0 g0'
  rw [show g * a * (g' * d) = (g * g') * (a * d) by grind, show g' * c * (g * b) = (g * g') * (c * b) by grind]
  exact (Int.mul_lt_mul_left hg).symm
theorem gcd_div_bd {p w : Int} (hw : 0 < w) (hw2 : w < 2 ^ 60) : -(2 ^ 64) < w / gcdI p w ∧ w / gcdI p w < 2 ^ 64 := by
  obtain ⟨g0, _⟩ := gcdI_pos (p := p) hw
  have := Int.ediv_le_self (gcdI p w) (Int.le_of_lt hw)
  have := Int.ediv_nonneg (Int.le_of_lt hw) (Int.le_of_lt g0)
  omega
def grB (ns : List Nt) (is : List Nat) : Bool := decide (sumS ns 1 is * sumH ns 0 is < sumS ns 0 is * sumH ns 1 is)
def sp_is_greater : Fs := fun cs q _ => ∃ ns is, cs = [.fz (.tuple (List.map dN ns)), .fz (.tuple (List.map dI' is))] ∧ okNs ns ∧ okI ns is ∧ q (.bool (grB ns is))
local macro_rules | `(tactic| walk_at "wp") => `(tactic| try dsimp only [u_seq, u_next, u_drop, u_ret, u_retO, u_ifS, u_asg, u_setO, u_par, u_par3, u_parO, u_par3O, u_parOc, u_aug, u_for, u_app, u_fix, u_gname, l_map1, l_map0, b_nt, b_nf, c_t, c_f, wVar, wVarB, wC, wOp, dI, dI0, dAdd, wNeg, wCmpV, wCmpT, dEq, dNe, dO, isNoneD, dIsN, dNotN, wAndT, wOrT, wNotT, truOk, truD, wTruT, wNotV, wAndV, wOrV, wIf, wChain, wBoolV, wIx, wNil, wCons, wTup, wLst, wN, wANil, wACons, wADr, wCall, wCallN, wgNil, wgCons, wgTup, wSeqI, seqD, wRng1, wRng2, wRng3, wCal, dAbs, dMax2, dMin2, dInt1, wCalB, dLen, isIntD, isBoolD, isStrD, isTupD, isLstD, wIsi, wLRev, wListA, dTupA, startS, wO0, wO1, dSl, wSl, wSlN, wRepN, wRepT, dIn, dGcd, dIntsL, wStar, wSeti, wUnDr, wSetDr, spDraw, dBest, wSetL, wLc, wAll, wAny, wYes, stpAll, stpAny, u_wipe0, u_wipe1, u_lk0, u_lk1, lkC, spTake, List.getElem?_cons_zero, List.getElem?_cons_succ, List.getElem?_nil, List.set_cons_zero, List.set_cons_succ, List.length_cons, List.length_nil, List.replicate_succ, List.replicate_zero, List.cons_append, List.nil_append, Nat.reduceAdd, Nat.reduceSub, sp_less, sp_rate_over])
theorem ok_is_greater (T : Txt K mg A) (B : Tbs mg base A) : FnOk P w K mg base (L2.CX P w) 3 A.a_is_greater A.d_is_greater ["nights", "some"] (Spf K (LL A) sp_is_greater) := by
  refine fn_flat T.f_is_greater sc_is_greater (by intro cs q r h; unfold sp_is_greater at h; first | (obtain ⟨_, rfl, _⟩ := h; rfl) | (obtain ⟨_, _, rfl, _⟩ := h; rfl) | (obtain ⟨_, _, _, rfl, _⟩ := h; rfl) | (obtain ⟨_, _, _, _, rfl, _⟩ := h; rfl) | (split at h <;> first | rfl | exact h.elim)) (fun cdv hcd A' outer s H E hr tk po => ?_)
  have nd := sc_is_greater.nd
  refine ⟨_, _, (fss_one (fs_ret (fe_call (ok_less T B) (hr.mono (by decide)) tk rfl T.m_less T.f_less.kp T.b_less (fa_cons (fe_call (ok_rate_over T B) (hr.mono (by decide)) tk rfl T.m_rate_over T.f_rate_over.kp T.b_rate_over (fa_cons (fe_var 0) (fa_cons fe_int (fa_cons (fe_var 1) fa_nil)))) (fa_cons (fe_call (ok_rate_over T B) (hr.mono (by decide)) tk rfl T.m_rate_over T.f_rate_over.kp T.b_rate_over (fa_cons (fe_var 0) (fa_cons fe_int (fa_cons (fe_var 1) fa_nil)))) fa_nil))))), ?_⟩
  clear hr tk po nd
  clear hcd
  rintro cs q r ⟨ns, is, rfl, hn, hi, h⟩
  have b0 := sumH_bd (w := 0) hn hi
  have b1 := sumH_bd (w := 1) hn hi
  walk_at "wp"
  refine ⟨_, _, _, rfl, .inr rfl, hn, hi, _, _, _, rfl, .inl rfl, hn, hi, ?_⟩
  unfold lowD
  walk_at "wp"
  have g1 := gcd_div_bd (p := sumS ns 1 is) (w := sumH ns 1 is) (by omega) (by omega)
  have g2 := gcd_div_bd (p := sumS ns 0 is) (w := sumH ns 0 is) (by omega) (by omega)
  refine ⟨⟨mul_r g2.1 g2.2, mul_r g1.1 g1.2⟩, ?_⟩
  rw [decide_eq_decide.mpr (low_lt (by omega) (by omega))]
  exact h
/-- the numbers that a row of data gives, each below n -/
def idxD (n : Nat) : List D → Option (List Nat)
  | [] => some []
  | d :: ds => match d with
    | .int k => if 0 ≤ k ∧ k ≤ (n : Int) - 1 then (idxD n ds).map (k.toNat :: ·) else none
    | _ => none
def incrB (is : List Nat) : Bool := (List.range (is.length - 1)).all fun k => decide (is.getD k 0 < is.getD (k + 1) 0)
def turnB (ns : List Nt) (is : List Nat) : Bool := decide (is ≠ []) && (incrB is && ((is.all fun i => grB ns [i]) && decide (sumS ns 0 is * sumH ns 1 is < sumS ns 1 is * sumH ns 0 is)))
def areT (ns : List Nt) (e : D) : Bool := match e with
  | .tuple es => match idxD ns.length es with
    | some is => turnB ns is
    | none => false
  | _ => false
theorem idxD_some {n : Nat} : ∀ {ds : List D} {is : List Nat}, idxD n ds = some is → ds = is.map dI' ∧ ∀ i ∈ is, i < n
  | [], is, h => by
    cases h
    exact ⟨rfl, fun i hi => by cases hi⟩
  | d :: ds, is, h => by
    unfold idxD at h
    split at h
    · split at h
      · rename_i k hk
        cases e : idxD n ds with
        | none => rw [e] at h; cases h
        | some js =>
          rw [e] at h
          cases h
          obtain ⟨h1, h2⟩ := idxD_some e
          refine ⟨?_, fun i hi => ?_⟩
          · rw [List.map_cons, ← h1]
            unfold dI'
            rw [Int.toNat_of_nonneg hk.1]
          · rcases List.mem_cons.mp hi with rfl | hi
            · omega
            · exact h2 i hi
      · cases h
    · cases h
theorem idxD_all {n : Nat} : ∀ {ds : List D}, (ds.all fun d => isNum d 0 ((n : Int) - 1)) = (idxD n ds).isSome
  | [] => rfl
  | d :: ds => by
    have ih := idxD_all (n := n) (ds := ds)
    cases d with
    | int k =>
      rw [List.all_cons, ih]
      show (decide (0 ≤ k) && decide (k ≤ (n : Int) - 1) && (idxD n ds).isSome) = (if 0 ≤ k ∧ k ≤ (n : Int) - 1 then (idxD n ds).map (k.toNat :: ·) else none).isSome
      by_cases h : 0 ≤ k ∧ k ≤ (n : Int) - 1
      · rw [if_pos h, decide_eq_true h.1, decide_eq_true h.2, Option.isSome_map]; rfl
      · rw [if_neg h]
        have : (decide (0 ≤ k) && decide (k ≤ (n : Int) - 1)) = false := by
          rw [Bool.and_eq_false_iff, decide_eq_false_iff_not, decide_eq_false_iff_not]; omega
        rw [this]; rfl
    | _ => rw [List.all_cons]; rfl
theorem idxD_of {n : Nat} : ∀ {is : List Nat}, (∀ i ∈ is, i < n) → idxD n (is.map dI') = some is
  | [], _ => rfl
  | i :: is, h => by
    have h1 := h i List.mem_cons_self
    rw [List.map_cons]
    unfold idxD dI'
    dsimp only
    rw [if_pos (by omega)]
    have := idxD_of fun j hj => h j (List.mem_cons_of_mem _ hj)
    unfold dI' at this
    rw [this]
    rfl
def sp_are_turned : Fs := fun cs q _ => ∃ ns e, cs = [.fz (.tuple (List.map dN ns)), .fz e] ∧ (okNs ns ∧ 1 ≤ ns.length ∧ (∀ es, e = .tuple es → es.length ≤ 100)) ∧ q (.bool (areT ns e))
local macro_rules | `(tactic| walk_at "wp") => `(tactic| try dsimp only [u_seq, u_next, u_drop, u_ret, u_retO, u_ifS, u_asg, u_setO, u_par, u_par3, u_parO, u_par3O, u_parOc, u_aug, u_for, u_app, u_fix, u_gname, l_map1, l_map0, b_nt, b_nf, c_t, c_f, wVar, wVarB, wC, wOp, dI, dI0, dAdd, wNeg, wCmpV, wCmpT, dEq, dNe, dO, isNoneD, dIsN, dNotN, wAndT, wOrT, wNotT, truOk, truD, wTruT, wNotV, wAndV, wOrV, wIf, wChain, wBoolV, wIx, wNil, wCons, wTup, wLst, wN, wANil, wACons, wADr, wCall, wCallN, wgNil, wgCons, wgTup, wSeqI, seqD, wRng1, wRng2, wRng3, wCal, dAbs, dMax2, dMin2, dInt1, wCalB, dLen, isIntD, isBoolD, isStrD, isTupD, isLstD, wIsi, wLRev, wListA, dTupA, startS, wO0, wO1, dSl, wSl, wSlN, wRepN, wRepT, dIn, dGcd, dIntsL, wStar, wSeti, wUnDr, wSetDr, spDraw, dBest, wSetL, wLc, wAll, wAny, wYes, stpAll, stpAny, u_wipe0, u_wipe1, u_lk0, u_lk1, lkC, spTake, List.getElem?_cons_zero, List.getElem?_cons_succ, List.getElem?_nil, List.set_cons_zero, List.set_cons_succ, List.length_cons, List.length_nil, List.replicate_succ, List.replicate_zero, List.cons_append, List.nil_append, Nat.reduceAdd, Nat.reduceSub, sp_less, sp_rate_over, sp_is_number, sp_is_greater])
theorem ok_are_turned (T : Txt K mg A) (B : Tbs mg base A) : FnOk P w K mg base (L2.CX P w) 5 A.a_are_turned A.d_are_turned ["nights", "value"] (Spf K (LL A) sp_are_turned) := by
  refine fn_flat T.f_are_turned sc_are_turned (by intro cs q r h; unfold sp_are_turned at h; first | (obtain ⟨_, rfl, _⟩ := h; rfl) | (obtain ⟨_, _, rfl, _⟩ := h; rfl) | (obtain ⟨_, _, _, rfl, _⟩ := h; rfl) | (obtain ⟨_, _, _, _, rfl, _⟩ := h; rfl) | (split at h <;> first | rfl | exact h.elim)) (fun cdv hcd A' outer s H E hr tk po => ?_)
  have hco := hcd.symm.trans T.k_are_turned
  have nd := sc_are_turned.nd
  refine ⟨_, _, (fss_cons (fs_if (ft_w (fw_or (ft_not (ft_truth (fb_fe (fe_isi isi_tup T.n_isinstance bt_isinstance T.n_tuple (by decide +kernel) (fb_var 1))))) (fw_or1 (ft_cmp (cmd_eq hr) (fb_fe (fe_bi1 cal_len T.n_len PySem.boot_len (fb_var 1))) (fb_fe fe_int)))))
  (fss_one (fs_ret fe_bl))
  fss_nil)
 (fss_cons (fs_if (ft_not (ft_truth (fb_fe (fe_all (k := 1) (own := [("one", 2)]) B.t_are_turned hco (.tail _ (.tail _ (.head _))) nd (hr.mono (by decide)) T.n_all (by decide +kernel) (fi_seq (fe_var 1)) ⟨rfl, by decide +kernel, rfl⟩ (blkOk_by (by kernel_rfl)) (fun Ag s H C cl code fp pn hr => (by apply FGc.cast; (case h => exact (fc_name (i := 2) nd (by decide))); (case q => (try dsimp only [FLG.gbx, Cx.blk]) <;> exact rfl))) (fun Ag s H C cl code fp pn hr => (by apply FTs.cast; (case h => exact fts_nil); (case q => (try dsimp only [FLG.gbx, Cx.blk]) <;> exact rfl))) (fun Ag s H C cl code fp pn hr => (by apply FE.cast; (case h => exact (fe_call (ok_is_number T B) (hr.mono (by decide)) (takes_wf) rfl T.m_is_number T.f_is_number.kp T.b_is_number (fa_cons (fe_var 2) (fa_cons fe_int (fa_cons (fe_sub (fe_bi1 cal_len T.n_len PySem.boot_len (fb_var 0)) fe_int) fa_nil))))); (case q => (try dsimp only [FLG.gbx, Cx.blk]) <;> exact rfl)))))))
  (fss_one (fs_ret fe_bl))
  fss_nil)
 (fss_cons (fs_if (ft_not (ft_truth (fb_fe (fe_all (k := 0) (own := [("at", 3)]) B.t_are_turned hco (.tail _ (.tail _ (.head _))) nd (hr.mono (by decide)) T.n_all (by decide +kernel) (fi_rng2 T.n_range (fl_cons fe_int (fl_cons (fe_bi1 cal_len T.n_len PySem.boot_len (fb_var 1)) fl_nil))) ⟨rfl, by decide +kernel, rfl⟩ (blkOk_by (by kernel_rfl)) (fun Ag s H C cl code fp pn hr => (by apply FGc.cast; (case h => exact (fc_name (i := 3) nd (by decide))); (case q => (try dsimp only [FLG.gbx, Cx.blk]) <;> exact rfl))) (fun Ag s H C cl code fp pn hr => (by apply FTs.cast; (case h => exact fts_nil); (case q => (try dsimp only [FLG.gbx, Cx.blk]) <;> exact rfl))) (fun Ag s H C cl code fp pn hr => (by apply FE.cast; (case h => exact (fe_cmp cmd_lt (fb_fe (fe_ix (fb_var 1) (fe_sub (fe_var 3) fe_int))) (fb_fe (fe_ix (fb_var 1) (fe_var 3))))); (case q => (try dsimp only [FLG.gbx, Cx.blk]) <;> exact rfl)))))))
  (fss_one (fs_ret fe_bl))
  fss_nil)
 (fss_cons (fs_if (ft_not (ft_truth (fb_fe (fe_all (k := 3) (own := [("one", 2)]) B.t_are_turned hco (.tail _ (.tail _ (.head _))) nd (hr.mono (by decide)) T.n_all (by decide +kernel) (fi_seq (fe_var 1)) ⟨rfl, by decide +kernel, rfl⟩ (blkOk_by (by kernel_rfl)) (fun Ag s H C cl code fp pn hr => (by apply FGc.cast; (case h => exact (fc_name (i := 2) nd (by decide))); (case q => (try dsimp only [FLG.gbx, Cx.blk]) <;> exact rfl))) (fun Ag s H C cl code fp pn hr => (by apply FTs.cast; (case h => exact fts_nil); (case q => (try dsimp only [FLG.gbx, Cx.blk]) <;> exact rfl))) (fun Ag s H C cl code fp pn hr => (by apply FE.cast; (case h => exact (fe_call (ok_is_greater T B) (hr.mono (by decide)) (takes_wf) rfl T.m_is_greater T.f_is_greater.kp T.b_is_greater (fa_cons (fe_var 0) (fa_cons (fe_tup (fl_cons (fe_var 2) fl_nil)) fa_nil)))); (case q => (try dsimp only [FLG.gbx, Cx.blk]) <;> exact rfl)))))))
  (fss_one (fs_ret fe_bl))
  fss_nil)
 (fss_one (fs_ret (fe_call (ok_less T B) (hr.mono (by decide)) tk rfl T.m_less T.f_less.kp T.b_less (fa_cons (fe_call (ok_rate_over T B) (hr.mono (by decide)) tk rfl T.m_rate_over T.f_rate_over.kp T.b_rate_over (fa_cons (fe_var 0) (fa_cons fe_int (fa_cons (fe_var 1) fa_nil)))) (fa_cons (fe_call (ok_rate_over T B) (hr.mono (by decide)) tk rfl T.m_rate_over T.f_rate_over.kp T.b_rate_over (fa_cons (fe_var 0) (fa_cons fe_int (fa_cons (fe_var 1) fa_nil)))) fa_nil))))))))), ?_⟩
  clear hr tk po nd
  clear hcd hco
  rintro cs q r ⟨ns, e, rfl, ⟨hn, h1, hlen⟩, h⟩
  cases e
  case tuple es =>
    have hle := hlen es rfl
    have hsz : es.length ≤ sizeLine := Nat.le_trans hle (by decide)
    walk_at "wp"
    walk_at "sm"
    unfold areT at h
    dsimp only at h
    have fin : idxD ns.length es = none → q (.bool false) := fun z => by rw [z] at h; exact h
    refine ⟨fun h0 => ?_, fun h0 => ?_⟩
    · have : es = [] := List.eq_nil_of_length_eq_zero (by omega)
      subst this
      exact h
    refine all_by (fun d => isNum d 0 ((ns.length : Int) - 1)) (fun d hd A B hA hB => ?_) ?_
    · walk_at "wp"
      rw [List.length_map]
      exact cond_of (fun z => hB z) (fun z => hA z)
    rw [idxD_all]
    cases hi : idxD ns.length es with
    | none => exact fin hi
    | some is =>
      rw [hi] at h
      dsimp only at h
      obtain ⟨rfl, hin⟩ := idxD_some hi
      rw [List.length_map] at hle h0
      have hne : is ≠ [] := fun z => h0 (by rw [z]; rfl)
      have okis : okI ns is := ⟨hne, hle, hin⟩
      have fld : ∀ j, j < is.length → (List.map dI' is)[j]? = some (.int ((is.getD j 0 : Nat) : Int)) := fun j hj => by
        rw [List.getElem?_map, List.getElem?_eq_getElem hj, List.getD_eq_getElem?_getD, List.getElem?_eq_getElem hj]; rfl
      walk_at "wp"
      refine cond_t rfl ⟨⟨by decide, by decide⟩, rg_len (by rw [List.length_map]; exact Nat.le_trans hle (by decide)), ?_⟩
      refine all_by (fun d => match d with | .int v => decide (is.getD (v - 1).toNat 0 < is.getD v.toNat 0) | _ => false) (fun d hd A B hA hB => ?_) ?_
      · obtain ⟨k, hk⟩ := List.getElem?_of_mem hd
        obtain ⟨rfl, hk⟩ := rng_get hk
        have hk2 : k < is.length - 1 := by
          have e := List.length_map (as := is) dI'
          omega
        walk_at "wp"
        refine ix_int (by omega) (fld _ (by omega)) ?_
        refine ix_int (by omega) (fld _ (by omega)) ?_
        refine cond_of (fun z => hB ?_) (fun z => hA ?_)
        · have := of_decide_eq_true z
          exact decide_eq_true (by omega)
        · have := of_decide_eq_false z
          exact decide_eq_false (by omega)
      have e1 : (rngD 1 (((List.map dI' is).length : Int) - 1).toNat).all (fun d => match d with | .int v => decide (is.getD (v - 1).toNat 0 < is.getD v.toNat 0) | _ => false) = incrB is := by
        unfold rngD incrB
        rw [List.all_map, List.length_map, show (((is.length : Nat) : Int) - 1).toNat = is.length - 1 by omega]
        congr 1
        funext k
        show decide (is.getD (1 + (k : Int) - 1).toNat 0 < is.getD (1 + (k : Int)).toNat 0) = _
        rw [show (1 + (k : Int) - 1).toNat = k by omega, show (1 + (k : Int)).toNat = k + 1 by omega]
      rw [e1]
      unfold turnB at h
      rw [decide_eq_true hne, Bool.true_and] at h
      refine cond_of (fun z1 => ?_) (fun z1 => by rw [z1] at h; exact h)
      rw [z1, Bool.true_and] at h
      refine all_by (fun d => match d with | .int v => grB ns [v.toNat] | _ => false) (fun d hd A B hA hB => ?_) ?_
      · obtain ⟨i, him, rfl⟩ := List.mem_map.mp hd
        have hil := hin i him
        walk_at "wp"
        refine ⟨by decide, ns, [i], rfl, hn, ⟨by simp, by simp, by simpa using hil⟩, ?_⟩
        unfold dI' at hA hB
        exact cond_of (fun z => hB z) (fun z => hA z)
      have e2 : (List.map dI' is).all (fun d => match d with | .int v => grB ns [v.toNat] | _ => false) = is.all fun i => grB ns [i] := by
        rw [List.all_map]; rfl
      rw [e2]
      refine cond_of (fun z2 => ?_) (fun z2 => by rw [z2] at h; exact h)
      rw [z2, Bool.true_and] at h
      have b0 := sumH_bd (w := 0) hn okis
      have b1 := sumH_bd (w := 1) hn okis
      refine ⟨_, _, _, rfl, .inl rfl, hn, okis, _, _, _, rfl, .inr rfl, hn, okis, ?_⟩
      unfold lowD
      walk_at "wp"
      have g0 := gcd_div_bd (p := sumS ns 0 is) (w := sumH ns 0 is) (by omega) (by omega)
      have g1 := gcd_div_bd (p := sumS ns 1 is) (w := sumH ns 1 is) (by omega) (by omega)
      refine ⟨⟨mul_r g1.1 g1.2, mul_r g0.1 g0.2⟩, ?_⟩
      rw [decide_eq_decide.mpr (low_lt (by omega) (by omega))]
      exact h
  all_goals
    walk_at "wp"
    walk_at "sm"
    exact h
def subs : Nat → List (List Nat)
  | 0 => [[]]
  | n + 1 => subs n ++ (subs n).map (· ++ [n])
theorem subs_len : ∀ n, (subs n).length = 2 ^ n
  | 0 => rfl
  | n + 1 => by
    unfold subs
    rw [List.length_append, List.length_map, subs_len n, Nat.pow_succ]; omega
theorem subs_in : ∀ {n : Nat} {r : List Nat}, r ∈ subs n → r.length ≤ n ∧ ∀ i ∈ r, i < n
  | 0, r, h => by
    have : r = [] := by simpa [subs] using h
    subst this
    exact ⟨Nat.le_refl _, fun i hi => by cases hi⟩
  | n + 1, r, h => by
    unfold subs at h
    rcases List.mem_append.mp h with h | h
    · obtain ⟨h1, h2⟩ := subs_in h
      exact ⟨by omega, fun i hi => by have := h2 i hi; omega⟩
    · obtain ⟨r', h', rfl⟩ := List.mem_map.mp h
      obtain ⟨h1, h2⟩ := subs_in h'
      refine ⟨by rw [List.length_append, List.length_singleton]; omega, fun i hi => ?_⟩
      rcases List.mem_append.mp hi with hi | hi
      · have := h2 i hi; omega
      · have : i = n := by simpa using hi
        omega
def dRow (r : List Nat) : D := .tuple (r.map dI')
def pairD (r : List Nat) : D := .tuple [.int (r.length : Int), dRow r]
def sndD : D → D
  | .tuple [_, x] => x
  | _ => .none
def bestD (good : List (List Nat)) : D := match good with
  | [] => .none
  | r :: rs => sndD (PySem.W.minD (pairD r) (rs.map pairD))
theorem alike_dI (as bs : List Nat) : PySem.W.alikeAll (as.map dI') (bs.map dI') = true := by
  induction as generalizing bs with
  | nil => simp [PySem.W.alikeAll]
  | cons a as ih =>
    cases bs with
    | nil => simp [PySem.W.alikeAll]
    | cons b bs => simp [PySem.W.alikeAll, PySem.W.alike, dI', ih bs]
theorem alike_pair (a b : List Nat) : PySem.W.alike (pairD a) (pairD b) = true := by
  simp [pairD, dRow, PySem.W.alike, PySem.W.alikeAll, alike_dI]
theorem depth_dI (as : List Nat) : PyData.depthAll (as.map dI') = 0 := by
  induction as with
  | nil => rfl
  | cons a as ih => simp [PyData.depthAll, PyData.depth, dI', ih]
theorem depth_pairs (rs : List (List Nat)) : PyData.depthAll (rs.map pairD) ≤ 2 := by
  induction rs with
  | nil => simp [PyData.depthAll]
  | cons r rs ih =>
    rw [List.map_cons, PyData.depthAll]
    have : (pairD r).depth = 2 := by simp [pairD, dRow, PyData.depth, PyData.depthAll, depth_dI]
    omega
theorem best_pairs (r : List Nat) (rs : List (List Nat)) : ∃ b ∈ r :: rs, PySem.W.minD (pairD r) (rs.map pairD) = pairD b := by
  have := minD_mem (pairD r) (rs.map pairD)
  rw [← List.map_cons] at this
  obtain ⟨b, h1, h2⟩ := List.mem_map.mp this
  exact ⟨b, h1, h2.symm⟩
theorem pairs_ok (r : List Nat) (rs : List (List Nat)) : PySem.W.AlikeAll (pairD r :: rs.map pairD) ∧ dep64 (pairD r :: rs.map pairD) := by
  rw [← List.map_cons]
  refine ⟨⟨fun x hx y hy => ?_, fun x hx => ?_⟩, Nat.le_trans (depth_pairs _) (by decide)⟩
  · obtain ⟨a, _, rfl⟩ := List.mem_map.mp hx
    obtain ⟨b, _, rfl⟩ := List.mem_map.mp hy
    exact alike_pair a b
  · obtain ⟨a, _, rfl⟩ := List.mem_map.mp hx
    intro z; cases z
theorem areT_row {ns : List Nt} {r : List Nat} (h : ∀ i ∈ r, i < ns.length) : areT ns (dRow r) = turnB ns r := by
  unfold areT dRow
  dsimp only
  rw [idxD_of h]
def sp_told_turned : Fs := fun cs q _ => ∃ ns, cs = [.fz (.tuple (List.map dN ns))] ∧ (okNs ns ∧ 1 ≤ ns.length) ∧ q (bestD ((subs ns.length).filter (turnB ns)))
local macro_rules | `(tactic| walk_at "wp") => `(tactic| try dsimp only [u_seq, u_next, u_drop, u_ret, u_retO, u_ifS, u_asg, u_setO, u_par, u_par3, u_parO, u_par3O, u_parOc, u_aug, u_for, u_app, u_fix, u_gname, l_map1, l_map0, b_nt, b_nf, c_t, c_f, wVar, wVarB, wC, wOp, dI, dI0, dAdd, wNeg, wCmpV, wCmpT, dEq, dNe, dO, isNoneD, dIsN, dNotN, wAndT, wOrT, wNotT, truOk, truD, wTruT, wNotV, wAndV, wOrV, wIf, wChain, wBoolV, wIx, wNil, wCons, wTup, wLst, wN, wANil, wACons, wADr, wCall, wCallN, wgNil, wgCons, wgTup, wSeqI, seqD, wRng1, wRng2, wRng3, wCal, dAbs, dMax2, dMin2, dInt1, wCalB, dLen, isIntD, isBoolD, isStrD, isTupD, isLstD, wIsi, wLRev, wListA, dTupA, startS, wO0, wO1, dSl, wSl, wSlN, wRepN, wRepT, dIn, dGcd, dIntsL, wStar, wSeti, wUnDr, wSetDr, spDraw, dBest, wSetL, wLc, wAll, wAny, wYes, stpAll, stpAny, u_wipe0, u_wipe1, u_lk0, u_lk1, lkC, spTake, List.getElem?_cons_zero, List.getElem?_cons_succ, List.getElem?_nil, List.set_cons_zero, List.set_cons_succ, List.length_cons, List.length_nil, List.replicate_succ, List.replicate_zero, List.cons_append, List.nil_append, Nat.reduceAdd, Nat.reduceSub, sp_are_turned])
theorem ok_told_turned (T : Txt K mg A) (B : Tbs mg base A) : FnOk P w K mg base (L2.CX P w) 6 A.a_told_turned A.d_told_turned ["nights"] (Spf K (LL A) sp_told_turned) := by
  refine fn_flat T.f_told_turned sc_told_turned (by intro cs q r h; unfold sp_told_turned at h; first | (obtain ⟨_, rfl, _⟩ := h; rfl) | (obtain ⟨_, _, rfl, _⟩ := h; rfl) | (obtain ⟨_, _, _, rfl, _⟩ := h; rfl) | (obtain ⟨_, _, _, _, rfl, _⟩ := h; rfl) | (split at h <;> first | rfl | exact h.elim)) (fun cdv hcd A' outer s H E hr tk po => ?_)
  have nd := sc_told_turned.nd
  refine ⟨_, _, (fss_cons (fs_set (i := 1) nd (fe_n (fn_lst (fl_cons (fe_tup fl_nil) fl_nil))))
 (fss_cons (fs_for po rfl (fi_rng1 T.n_range (fl_cons (fe_bi1 cal_len T.n_len PySem.boot_len (fb_var 0)) fl_nil)) (fg_name (i := 2) nd)
  (fss_one (fs_set (i := 1) nd (fe_add (fe_var 1) (fe_n (fn_lc (own := [("row", 4)]) rfl nd (fi_seq (fe_var 1)) (blkOk_by (by kernel_rfl)) (fun s H C cl fp => (by apply FGc.cast; (case h => exact (fc_name (i := 4) nd (by decide))); (case q => (try dsimp only [FLG.gbx, Cx.blk]) <;> exact rfl))) (fun s H C cl fp => (by apply FTs.cast; (case h => exact fts_nil); (case q => (try dsimp only [FLG.gbx, Cx.blk]) <;> exact rfl))) (fun s H C cl fp => (by apply FE.cast; (case h => exact (fe_tup (fl_star (fe_var 4) (fl_cons (fe_var 2) fl_nil)))); (case q => (try dsimp only [FLG.gbx, Cx.blk]) <;> exact rfl)))))))))
 (fss_cons (fs_setLc (own := [("row", 4)]) (i := 3) rfl nd (fi_seq (fe_var 1)) (blkOk_by (by kernel_rfl)) (fun s H C cl fp => (by apply FGc.cast; (case h => exact (fc_name (i := 4) nd (by decide))); (case q => (try dsimp only [FLG.gbx, Cx.blk]) <;> exact rfl))) (fun s H C cl fp => (by apply FTs.cast; (case h => exact (fts_one (ft_truth (fb_fe (fe_call (ok_are_turned T B) (hr.mono (by decide)) (takes_wf) rfl T.m_are_turned T.f_are_turned.kp T.b_are_turned (fa_cons (fe_var 0) (fa_cons (fe_var 4) fa_nil))))))); (case q => (try dsimp only [FLG.gbx, Cx.blk]) <;> exact rfl))) (fun s H C cl fp => (by apply FE.cast; (case h => exact (fe_tup (fl_cons (fe_bi1 cal_len T.n_len PySem.boot_len (fb_var 4)) (fl_cons (fe_var 4) fl_nil)))); (case q => (try dsimp only [FLG.gbx, Cx.blk]) <;> exact rfl))))
 (fss_one (fs_ret (fe_if (ft_cmp cmd_gt (fb_fe (fe_bi1 cal_len T.n_len PySem.boot_len (fb_var 3))) (fb_fe fe_int)) (fe_ix (fb_fe (fe_bi1 (cal_minA hr) T.n_min (by decide +kernel) (fb_var 3))) fe_int) fe_non)))))), ?_⟩
  clear hr tk po nd
  clear hcd
  rintro cs q r ⟨ns, rfl, ⟨hn, h1⟩, h⟩
  have big : ∀ {k : Nat}, k ≤ 7 → (subs k).length ≤ 128 := fun {k} hk => by
    rw [subs_len]
    exact Nat.pow_le_pow_right (by decide) hk
  have h7 := hn.1
  walk_at "wp"
  rw [List.length_map, Int.toNat_natCast]
  refine ⟨by decide, by decide, rg_len (Nat.le_trans h7 (by decide)), ?_⟩
  refine ⟨fun i s' => ∃ x2 x3 x4, s' = [.fz (.tuple (List.map dN ns)), .fz (.list ((subs i).map dRow)), x2, x3, x4], ⟨_, _, _, rfl⟩, ?_, ?_⟩
  · rintro i d s' e ⟨x2, x3, x4, rfl⟩
    obtain ⟨rfl, hi⟩ := rng_get0 e
    have hb := big (k := i) (by omega)
    walk_at "wp"
    refine lc_map (fun d => match d with | .tuple ds => .tuple (ds ++ [.int (i : Int)]) | _ => d) (by rw [List.length_map]; exact Nat.le_trans hb (by decide)) (fun d hd acc J hJ => ?_) ?_
    · obtain ⟨r', hr, rfl⟩ := List.mem_map.mp hd
      unfold dRow at hJ ⊢
      walk_at "wp"
      have := (subs_in hr).1
      exact ⟨by rw [List.length_append, List.length_map, List.length_singleton]; exact Nat.le_trans (show r'.length + 1 ≤ 8 by omega) (by decide), hJ⟩
    · have e2 : List.map dRow (subs i) ++ List.map (fun d => match d with | .tuple ds => .tuple (ds ++ [.int (i : Int)]) | _ => d) (List.map dRow (subs i)) = List.map dRow (subs (i + 1)) := by
        rw [subs, List.map_append, List.map_map, List.map_map]
        congr 1
        apply List.map_congr_left
        intro r' _
        simp [dRow, dI']
      refine ⟨?_, _, _, _, by rw [e2]⟩
      rw [List.length_map, List.length_map, List.length_map]
      exact Nat.le_trans (show (subs i).length + (subs i).length ≤ 256 by omega) (by decide)
  · rintro s' ⟨x2, x3, x4, rfl⟩
    rw [rng_len]
    have hb := big h7
    walk_at "wp"
    refine lc_fm (fun d => match d with | .tuple ds => if areT ns (.tuple ds) = true then some (.tuple [.int (ds.length : Int), .tuple ds]) else none | _ => none) (by rw [List.length_map]; exact Nat.le_trans hb (by decide)) (fun d hd acc J hJ1 hJ2 => ?_) ?_
    · obtain ⟨r', hr, rfl⟩ := List.mem_map.mp hd
      have hlr := (subs_in hr).1
      unfold dRow at hJ1 hJ2 ⊢
      walk_at "wp"
      refine ⟨ns, _, rfl, ⟨hn, h1, fun es he => ?_⟩, trivial, cond_of (fun z => ⟨by decide, hJ2 _ (if_pos z)⟩) (fun z => hJ1 (if_neg (by rw [z]; decide)))⟩
      cases he
      rw [List.length_map]
      omega
    · have e3 : List.filterMap (fun d => match d with | .tuple ds => if areT ns (.tuple ds) = true then some (.tuple [.int (ds.length : Int), .tuple ds]) else none | _ => none) (List.map dRow (subs ns.length)) = ((subs ns.length).filter (turnB ns)).map pairD := by
        rw [List.filterMap_map]
        have : ∀ (l : List (List Nat)), (∀ r ∈ l, ∀ i ∈ r, i < ns.length) → List.filterMap ((fun d => match d with | PyData.tuple ds => if areT ns (.tuple ds) = true then some (.tuple [.int (ds.length : Int), .tuple ds]) else none | _ => none) ∘ dRow) l = (l.filter (turnB ns)).map pairD := by
          intro l
          induction l with
          | nil => intro _; rfl
          | cons r l ih =>
            intro hl
            have a := areT_row (ns := ns) (hl r List.mem_cons_self)
            rw [List.filterMap_cons, List.filter_cons, ih fun r' hr' => hl r' (List.mem_cons_of_mem _ hr')]
            have c : ((fun d => match d with | PyData.tuple ds => if areT ns (.tuple ds) = true then some (PyData.tuple [.int (ds.length : Int), .tuple ds]) else none | _ => none) ∘ dRow) r = if turnB ns r = true then some (pairD r) else none := by
              rw [← a]
              show (if areT ns (dRow r) = true then some (PyData.tuple [.int (((r.map dI').length : Nat) : Int), dRow r]) else none) = _
              rw [List.length_map]
              rfl
            rw [c]
            cases turnB ns r with
            | true => rw [if_pos rfl, if_pos rfl, List.map_cons]
            | false => rw [if_neg Bool.false_ne_true, if_neg Bool.false_ne_true]
        exact this _ fun r hr => (subs_in hr).2
      rw [e3]
      cases hg : (subs ns.length).filter (turnB ns) with
      | nil =>
        rw [hg] at h
        exact h
      | cons r0 rs =>
        rw [hg] at h
        obtain ⟨b, hb1, hb2⟩ := best_pairs r0 rs
        unfold bestD at h
        dsimp only at h
        rw [hb2] at h
        rw [List.map_cons]
        refine cond_t (by rw [List.length_cons]; exact decide_eq_true (by omega)) ⟨pairs_ok r0 rs, ?_⟩
        rw [hb2]
        exact ⟨_, rfl, h⟩
/-- data that == and isinstance tell apart as data, of depth at most n -/
def okS : Nat → D → Prop
  | _, .dict _ => False
  | 0, .list _ => False
  | 0, .tuple _ => False
  | n + 1, .list xs => xs.length ≤ sizeLine ∧ ∀ x ∈ xs, okS n x
  | n + 1, .tuple xs => xs.length ≤ sizeLine ∧ ∀ x ∈ xs, okS n x
  | _, _ => True
/-- the same, told the same -/
def sp__law_alike (n : Nat) : Fs := fun cs q _ => ∃ d, cs = [.fz d, .fz d] ∧ okS n d ∧ q (.bool true)
def spi__law_alike : Nat → Fs
  | 0 => fun _ _ _ => False
  | n + 1 => sp__law_alike n
theorem st__law_alike (T : Txt K mg A) (B : Tbs mg base A) (n : Nat) (G : FnOk P w K mg base (L2.CX P w) (0 + n) A.a__law_alike A.d__law_alike ["found", "due"] (Spf K (LL A) (spi__law_alike n))) : FnOk P w K mg base (L2.CX P w) (0 + n + 1) A.a__law_alike A.d__law_alike ["found", "due"] (Spf K (LL A) (sp__law_alike n)) := by
  refine fn_flat T.f__law_alike sc__law_alike (by intro cs q r h; unfold sp__law_alike at h; first | (obtain ⟨_, rfl, _⟩ := h; rfl) | (obtain ⟨_, _, rfl, _⟩ := h; rfl) | (obtain ⟨_, _, _, rfl, _⟩ := h; rfl) | (obtain ⟨_, _, _, _, rfl, _⟩ := h; rfl) | (split at h <;> first | rfl | exact h.elim)) (fun cdv hcd A' outer s H E hr tk po => ?_)
  have nd := sc__law_alike.nd
  refine ⟨_, _, (fss_cons (fs_if (ft_w (fw_or (ft_truth (fb_fe (fe_isi isi_lst T.n_isinstance bt_isinstance T.n_list (by decide +kernel) (fb_var 1)))) (fw_or1 (ft_truth (fb_fe (fe_isi isi_tup T.n_isinstance bt_isinstance T.n_tuple (by decide +kernel) (fb_var 1)))))))
  (fss_cons (fs_if (ft_w (fw_or (ft_cmp (cmd_ne hr) (fb_fe (fe_isi isi_lst T.n_isinstance bt_isinstance T.n_list (by decide +kernel) (fb_var 0))) (fb_fe (fe_isi isi_lst T.n_isinstance bt_isinstance T.n_list (by decide +kernel) (fb_var 1)))) (fw_or1 (ft_cmp (cmd_ne hr) (fb_fe (fe_isi isi_tup T.n_isinstance bt_isinstance T.n_tuple (by decide +kernel) (fb_var 0))) (fb_fe (fe_isi isi_tup T.n_isinstance bt_isinstance T.n_tuple (by decide +kernel) (fb_var 1)))))))
  (fss_one (fs_ret fe_bl))
  fss_nil)
 (fss_one (fs_ret (fe_andV (fe_cmp (cmd_eq hr) (fb_fe (fe_bi1 cal_len T.n_len PySem.boot_len (fb_var 0))) (fb_fe (fe_bi1 cal_len T.n_len PySem.boot_len (fb_var 1)))) (fe_one (fe_cmp (cmd_eq hr) (fb_fe (fe_n (fn_lc (own := [("k", 2)]) rfl nd (fi_rng1 T.n_range (fl_cons (fe_bi1 cal_len T.n_len PySem.boot_len (fb_var 1)) fl_nil)) (blkOk_by (by kernel_rfl)) (fun s H C cl fp => (by apply FGc.cast; (case h => exact (fc_name (i := 2) nd (by decide))); (case q => (try dsimp only [FLG.gbx, Cx.blk]) <;> exact rfl))) (fun s H C cl fp => (by apply FTs.cast; (case h => exact (fts_one (ft_not (ft_truth (fb_fe (fe_call G hr (takes_wf) rfl T.m__law_alike T.f__law_alike.kp T.b__law_alike (fa_cons (fe_ix (fb_var 0) (fe_var 2)) (fa_cons (fe_ix (fb_var 1) (fe_var 2)) fa_nil)))))))); (case q => (try dsimp only [FLG.gbx, Cx.blk]) <;> exact rfl))) (fun s H C cl fp => (by apply FE.cast; (case h => exact (fe_var 2)); (case q => (try dsimp only [FLG.gbx, Cx.blk]) <;> exact rfl)))))) (fb_fe (fe_n (fn_lst fl_nil)))))))))
  fss_nil)
 (fss_cons (fs_if (ft_cmp cmd_is (fb_var 1) (fb_fe fe_non))
  (fss_one (fs_ret (fe_cmp cmd_is (fb_var 0) (fb_fe fe_non))))
  fss_nil)
 (fss_cons (fs_if (ft_w (fw_or (ft_truth (fb_fe (fe_isi isi_bool T.n_isinstance bt_isinstance T.n_bool (by decide +kernel) (fb_var 1)))) (fw_or1 (ft_truth (fb_fe (fe_isi isi_bool T.n_isinstance bt_isinstance T.n_bool (by decide +kernel) (fb_var 0)))))))
  (fss_one (fs_ret (fe_andV (fe_isi isi_bool T.n_isinstance bt_isinstance T.n_bool (by decide +kernel) (fb_var 0)) (fe_andV (fe_isi isi_bool T.n_isinstance bt_isinstance T.n_bool (by decide +kernel) (fb_var 1)) (fe_one (fe_cmp (cmd_eq hr) (fb_var 0) (fb_var 1)))))))
  fss_nil)
 (fss_cons (fs_if (ft_truth (fb_fe (fe_isi isi_int T.n_isinstance bt_isinstance T.n_int (by decide +kernel) (fb_var 1))))
  (fss_one (fs_ret (fe_andV (fe_isi isi_int T.n_isinstance bt_isinstance T.n_int (by decide +kernel) (fb_var 0)) (fe_one (fe_cmp (cmd_eq hr) (fb_var 0) (fb_var 1))))))
  fss_nil)
 (fss_one (fs_ret (fe_andV (fe_isi isi_str T.n_isinstance bt_isinstance T.n_str (by decide +kernel) (fb_var 0)) (fe_one (fe_cmp (cmd_eq hr) (fb_var 0) (fb_var 1)))))))))), ?_⟩
  clear hr tk po nd G
  clear hcd
  rintro cs q r ⟨d, rfl, hd, h⟩
  cases d with
  | dict _ => cases n <;> exact hd.elim
  | list xs =>
    cases n with
    | zero => exact hd.elim
    | succ n =>
      walk_at "wp"
      walk_at "sm"
      rw [Int.toNat_natCast]
      refine ⟨rg_len hd.1, lc_fm (fun _ => none) (by rw [rng_len]; exact hd.1) (fun d hm acc J h1 h2 => ?_) ?_⟩
      · obtain ⟨j, hj, rfl⟩ := mem_rng hm
        have hx : xs[j]? = some xs[j] := List.getElem?_eq_getElem hj
        walk_at "wp"
        exact ix_nat hx (ix_nat hx ⟨_, rfl, hd.2 _ (List.mem_of_getElem? hx), trivial, h1 rfl⟩)
      · rw [show (rngD 0 xs.length).filterMap (fun _ => (none : Option D)) = [] by simp]
        exact ⟨by decide, .inr ⟨rfl, rfl⟩, h⟩
  | tuple xs =>
    cases n with
    | zero => exact hd.elim
    | succ n =>
      walk_at "wp"
      walk_at "sm"
      rw [Int.toNat_natCast]
      refine ⟨rg_len hd.1, lc_fm (fun _ => none) (by rw [rng_len]; exact hd.1) (fun d hm acc J h1 h2 => ?_) ?_⟩
      · obtain ⟨j, hj, rfl⟩ := mem_rng hm
        have hx : xs[j]? = some xs[j] := List.getElem?_eq_getElem hj
        walk_at "wp"
        exact ix_nat hx (ix_nat hx ⟨_, rfl, hd.2 _ (List.mem_of_getElem? hx), trivial, h1 rfl⟩)
      · rw [show (rngD 0 xs.length).filterMap (fun _ => (none : Option D)) = [] by simp]
        exact ⟨by decide, .inr ⟨rfl, rfl⟩, h⟩
  | _ =>
    walk_at "wp"
    walk_at "sm"
    exact h
theorem ok__law_alike (T : Txt K mg A) (B : Tbs mg base A) : ∀ n : Nat, FnOk P w K mg base (L2.CX P w) (0 + n + 1) A.a__law_alike A.d__law_alike ["found", "due"] (Spf K (LL A) (sp__law_alike n))
  | 0 => st__law_alike T B 0 fnok_false
  | n + 1 => st__law_alike T B (n + 1) (ok__law_alike T B n)
def sp__law_lowest : Fs := fun cs q _ => match cs with
  | [.fz (.int p), .fz (.int w)] => (0 ≤ p ∧ 0 < w ∧ w < 2 ^ 60) ∧ q (lowD p w)
  | _ => False
theorem ok__law_lowest (T : Txt K mg A) (B : Tbs mg base A) : FnOk P w K mg base (L2.CX P w) 1 A.a__law_lowest A.d__law_lowest ["part", "whole"] (Spf K (LL A) sp__law_lowest) := by
  refine fn_flat T.f__law_lowest sc__law_lowest (by intro cs q r h; unfold sp__law_lowest at h; first | (obtain ⟨_, rfl, _⟩ := h; rfl) | (obtain ⟨_, _, rfl, _⟩ := h; rfl) | (obtain ⟨_, _, _, rfl, _⟩ := h; rfl) | (obtain ⟨_, _, _, _, rfl, _⟩ := h; rfl) | (split at h <;> first | rfl | exact h.elim)) (fun cdv hcd A' outer s H E hr tk po => ?_)
  have nd := sc__law_lowest.nd
  refine ⟨_, _, (fss_cons (fs_par (i := 2) (j := 3) rfl nd (fl_cons (fe_var 0) (fl_cons (fe_var 1) fl_nil)))
 (fss_cons (fs_while po (ft_cmp cmd_gt (fb_var 3) (fb_fe fe_int))
  (fss_one (fs_par (i := 2) (j := 3) rfl nd (fl_cons (fe_var 3) (fl_cons (fe_mod (fe_ty cal_int1 T.n_int (by decide +kernel) (fl_cons (fe_var 2) fl_nil)) (fe_var 3)) fl_nil)))))
 (fss_one (fs_ret (fe_if (ft_cmp cmd_gt (fb_var 0) (fb_fe fe_int)) (fe_tup (fl_cons (fe_div (fe_var 0) (fe_var 2)) (fl_cons (fe_div (fe_var 1) (fe_var 2)) fl_nil))) (fe_tup (fl_cons fe_int (fl_cons fe_int fl_nil)))))))), ?_⟩
  clear hr tk po nd
  clear hcd
  intro cs q r h
  unfold sp__law_lowest at h
  split at h
  case h_2 => exact h.elim
  rename_i p w
  obtain ⟨⟨h0, h1, h2⟩, h⟩ := h
  walk_at "wp"
  refine ⟨fun m s' => ∃ o t : Int, (0 ≤ o ∧ 0 ≤ t ∧ t.toNat = m ∧ gcdI o t = gcdI p w) ∧ s' = [.fz (.int p), .fz (.int w), .fz (.int o), .fz (.int t)], ⟨_, p, w, ⟨h0, by omega, rfl, rfl⟩, rfl⟩, ?_⟩
  rintro m s' ⟨o, t, ⟨g0, g1, rfl, g⟩, rfl⟩
  walk_at "wp"
  refine cond_of (fun z => ?_) (fun z => ?_)
  · have z := of_decide_eq_true z
    refine ⟨z, _, ?_, t, o % t, ⟨g1, Int.emod_nonneg _ (by omega), rfl, ?_⟩, rfl⟩
    · have := Int.emod_lt_of_pos o z
      omega
    · rw [gcdI_mod g0 z, g]
  · have z := of_decide_eq_false z
    obtain rfl : t = 0 := by omega
    rw [gcdI_zero g0] at g
    subst g
    obtain ⟨b0, b1⟩ := gcdI_pos (p := p) h1
    unfold lowD at h
    refine cond_of (fun _ => ⟨⟨b0, div_s (by omega) (by omega)⟩, ⟨b0, div_s (by omega) (by omega)⟩, by decide, h⟩) (fun y => ⟨by decide, ?_⟩)
    have y := of_decide_eq_false y
    obtain rfl : p = 0 := by omega
    have e : gcdI 0 w = w := by unfold gcdI; rw [Int.natAbs_zero, Nat.gcd_zero_left]; omega
    rw [e, Int.zero_ediv, Int.ediv_self (by omega)] at h
    exact h
def sp__law_nights : Fs := fun cs q _ => ∃ (_ : Unit), cs = [.dr] ∧ ∀ ns : List Nt, okNs ns → 1 ≤ ns.length → ns.length ≤ 6 → q (.tuple (List.map dN ns))
theorem ok__law_nights (T : Txt K mg A) (B : Tbs mg base A) : FnOk P w K mg base (L2.CX P w) 2 A.a__law_nights A.d__law_nights ["draws"] (Spf K (LL A) sp__law_nights) := by
  refine fn_flat T.f__law_nights sc__law_nights (by intro cs q r h; unfold sp__law_nights at h; first | (obtain ⟨_, rfl, _⟩ := h; rfl) | (obtain ⟨_, _, rfl, _⟩ := h; rfl) | (obtain ⟨_, _, _, rfl, _⟩ := h; rfl) | (obtain ⟨_, _, _, _, rfl, _⟩ := h; rfl) | (split at h <;> first | rfl | exact h.elim)) (fun cdv hcd A' outer s H E hr tk po => ?_)
  have nd := sc__law_nights.nd
  refine ⟨_, _, (fss_cons (fs_parO (i := 2) (j := 3) rfl nd (fe_ix (fb_fe (fe_n (fn_lst (fl_cons fe_int (fl_cons fe_int (fl_cons fe_int fl_nil)))))) (fe_call (ok__law_take T B) (hr.mono (by decide)) tk rfl T.m__law_take T.f__law_take.kp T.b__law_take (fa_dr 0 (fa_cons fe_int fa_nil)))) (fn_lst fl_nil))
 (fss_cons (fs_for po rfl (fi_rng1 T.n_range (fl_cons (fe_add fe_int (fe_call (ok__law_take T B) (hr.mono (by decide)) tk rfl T.m__law_take T.f__law_take.kp T.b__law_take (fa_dr 0 (fa_cons fe_int fa_nil)))) fl_nil)) (fg_name (i := 1) nd)
  (fss_cons (fs_par (i := 6) (j := 7) rfl nd (fl_cons (fe_add fe_int (fe_call (ok__law_take T B) (hr.mono (by decide)) tk rfl T.m__law_take T.f__law_take.kp T.b__law_take (fa_dr 0 (fa_cons (fe_ix (fb_fe (fe_n (fn_lst (fl_cons fe_int (fl_cons fe_int fl_nil))))) (fe_call (ok__law_take T B) (hr.mono (by decide)) tk rfl T.m__law_take T.f__law_take.kp T.b__law_take (fa_dr 0 (fa_cons fe_int fa_nil)))) fa_nil)))) (fl_cons (fe_add fe_int (fe_call (ok__law_take T B) (hr.mono (by decide)) tk rfl T.m__law_take T.f__law_take.kp T.b__law_take (fa_dr 0 (fa_cons (fe_ix (fb_fe (fe_n (fn_lst (fl_cons fe_int (fl_cons fe_int fl_nil))))) (fe_call (ok__law_take T B) (hr.mono (by decide)) tk rfl T.m__law_take T.f__law_take.kp T.b__law_take (fa_dr 0 (fa_cons fe_int fa_nil)))) fa_nil)))) fl_nil)))
 (fss_cons (fs_set (i := 4) nd (fe_call (ok__law_take T B) (hr.mono (by decide)) tk rfl T.m__law_take T.f__law_take.kp T.b__law_take (fa_dr 0 (fa_cons (fe_var 2) fa_nil))))
 (fss_cons (fs_set (i := 5) nd (fe_if (ft_cmp cmd_gt (fb_fe (fe_call (ok__law_take T B) (hr.mono (by decide)) tk rfl T.m__law_take T.f__law_take.kp T.b__law_take (fa_dr 0 (fa_cons fe_int fa_nil)))) (fb_fe fe_int)) (fe_bi (cal_max2 rfl) T.n_max (by decide +kernel) (fl_cons fe_int (fl_cons (fe_div (fe_sub (fe_mul (fe_var 4) (fe_var 7)) fe_int) (fe_var 6)) fl_nil))) (fe_call (ok__law_take T B) (hr.mono (by decide)) tk rfl T.m__law_take T.f__law_take.kp T.b__law_take (fa_dr 0 (fa_cons (fe_var 2) fa_nil)))))
 (fss_one (fs_app 3 (fe_tup (fl_cons (fe_var 4) (fl_cons (fe_var 6) (fl_cons (fe_bi (cal_min2 rfl) T.n_min (by decide +kernel) (fl_cons fe_int (fl_cons (fe_var 5) fl_nil))) (fl_cons (fe_var 7) fl_nil)))))))))))
 (fss_cons (fs_if (ft_cmp (cmd_eq hr) (fb_fe (fe_call (ok__law_take T B) (hr.mono (by decide)) tk rfl T.m__law_take T.f__law_take.kp T.b__law_take (fa_dr 0 (fa_cons fe_int fa_nil)))) (fb_fe fe_int))
  (fss_one (fs_set (i := 3) nd (fe_add (fe_sl (fb_var 3) fo_none (fo_some fe_int)) (fe_n (fn_lst (fl_cons (fe_tup (fl_cons (fe_add fe_int (fe_call (ok__law_take T B) (hr.mono (by decide)) tk rfl T.m__law_take T.f__law_take.kp T.b__law_take (fa_dr 0 (fa_cons fe_int fa_nil)))) (fl_cons fe_int (fl_cons fe_int (fl_cons (fe_add fe_int (fe_call (ok__law_take T B) (hr.mono (by decide)) tk rfl T.m__law_take T.f__law_take.kp T.b__law_take (fa_dr 0 (fa_cons fe_int fa_nil)))) fl_nil))))) (fl_cons (fe_tup (fl_cons fe_int (fl_cons fe_int (fl_cons (fe_add fe_int (fe_call (ok__law_take T B) (hr.mono (by decide)) tk rfl T.m__law_take T.f__law_take.kp T.b__law_take (fa_dr 0 (fa_cons fe_int fa_nil)))) (fl_cons fe_int fl_nil))))) fl_nil)))))))
  fss_nil)
 (fss_one (fs_ret (fe_ty1 cal_tuple T.n_tuple (by decide +kernel) (fb_var 3))))))), ?_⟩
  clear hr tk po nd
  clear hcd
  rintro cs q r ⟨_, rfl, h⟩
  walk_at "wp"
  refine ⟨by decide, by decide, fun v hv0 hv1 => ?_⟩
  obtain ⟨t, hd, ht0, ht1⟩ : ∃ t : Int, atI [PyData.int 6, PyData.int 40, PyData.int 101] v = some (.int t) ∧ 1 ≤ t ∧ t ≤ 101 := by
    rcases (show v = 0 ∨ v = 1 ∨ v = 2 by omega) with rfl | rfl | rfl
    · exact ⟨6, rfl, by decide, by decide⟩
    · exact ⟨40, rfl, by decide, by decide⟩
    · exact ⟨101, rfl, by decide, by decide⟩
  refine ⟨_, hd, by decide, by decide, fun u hu0 hu1 => ⟨⟨by omega, by omega⟩, ?_⟩⟩
  refine ⟨fun i s' => ∃ (ns : List Nt) (x1 x4 x5 x6 x7 : Cel), (ns.length = i ∧ ∀ n ∈ ns, okN n) ∧ s' = [.dr, x1, .fz (.int t), .ow (ns.map dN), x4, x5, x6, x7], ⟨[], _, _, _, _, _, ⟨rfl, fun _ h => by cases h⟩, rfl⟩, ?_, ?_⟩
  · rintro i d s' e ⟨ns, x1, x4, x5, x6, x7, ⟨hl, hn⟩, rfl⟩
    have hi := (rng_get e).2
    have bt : ∀ c : Int, c = 3 ∨ c = 24 → 0 < c ∧ c ≤ 24 := fun c hc => by omega
    walk_at "wp"
    refine ⟨by decide, by decide, fun a1 p1 p2 => ix_two p1 p2 fun c1 hc1 => ⟨(bt c1 hc1).1, fun a2 p3 p4 => ⟨by decide, by decide, fun a3 p5 p6 => ix_two p5 p6 fun c2 hc2 => ⟨(bt c2 hc2).1, fun a4 p7 p8 => ?_⟩⟩⟩⟩
    have b1 := bt c1 hc1
    have b2 := bt c2 hc2
    walk_at "wp"
    have fin : ∀ (y : Int) (x : Int), 0 ≤ y → y ≤ 100 → 0 ≤ x → List.length (ns.map dN) < sizeLine ∧ ∃ (ns' : List Nt) (x1 x4 x5 x6 x7 : Cel), (ns'.length = i + 1 ∧ ∀ n ∈ ns', okN n) ∧ [Cel.dr, .fz d, .fz (.int t), .ow (ns.map dN ++ [.tuple [.int y, .int (1 + a2), .int (if x < 100 then x else 100), .int (1 + a4)]]), .fz (.int y), .fz (.int x), .fz (.int (1 + a2)), .fz (.int (1 + a4))] = [.dr, x1, .fz (.int t), .ow (ns'.map dN), x4, x5, x6, x7] := by
      intro y x y0 y1 z0
      refine ⟨by rw [List.length_map, hl]; exact Nat.lt_of_lt_of_le (show i < 8 by omega) (by decide), ns ++ [(y, 1 + a2, if x < 100 then x else 100, 1 + a4)], _, _, _, _, _, ⟨by rw [List.length_append, hl, List.length_singleton], fun n hn' => ?_⟩, by rw [List.map_append]; rfl⟩
      rcases List.mem_append.mp hn' with hn' | hn'
      · exact hn n hn'
      · obtain rfl : n = _ := List.mem_singleton.mp hn'
        unfold okN
        dsimp only
        split <;> omega
    exact ⟨by omega, fun y y0 y1 => ⟨by decide, fun z _ _ => FL.cond_of (fun _ => ⟨mul_r (by omega) (by omega), ⟨by omega, div_s (by omega) (by omega)⟩, by decide, fin y _ y0 (by omega) (by split <;> omega)⟩) (fun _ => ⟨by omega, fun x x0 _ => ⟨by decide, fin y x y0 (by omega) x0⟩⟩)⟩⟩
  · rintro s' ⟨ns, x1, x4, x5, x6, x7, ⟨hl, hn⟩, rfl⟩
    rw [rng_len] at hl
    walk_at "wp"
    walk_at "sm"
    refine ⟨by decide, fun k k0 k1 => ⟨fun _ => ?_, fun _ => h ns ⟨by omega, hn⟩ (by omega) (by omega)⟩⟩
    have e4 : cutL (List.map dN ns) none (some 4) = List.map dN (ns.take 4) := by
      rw [List.map_take]
      exact cut_take _ 4
    have l4 : (ns.take 4).length ≤ 4 := by rw [List.length_take]; omega
    rw [e4]
    refine ⟨by decide, fun a a0 a1 => ⟨by decide, fun b b0 b1 => ⟨by decide, by decide, fun c c0 c1 => ⟨by decide, by decide, by rw [List.length_map]; exact Nat.le_trans (show (ns.take 4).length + 2 ≤ 6 by omega) (by decide), ?_⟩⟩⟩⟩
    have := h (ns.take 4 ++ [(1 + a, 20, 0, 1 + b), (40, 2, 90 + c, 20)]) ⟨by rw [List.length_append]; show (ns.take 4).length + 2 ≤ 7; omega, fun n hm => ?_⟩ (by rw [List.length_append]; show 1 ≤ (ns.take 4).length + 2; omega) (by rw [List.length_append]; show (ns.take 4).length + 2 ≤ 6; omega)
    · rw [List.map_append] at this
      exact this
    · rcases List.mem_append.mp hm with hm | hm
      · exact hn n (List.mem_of_mem_take hm)
      · rcases List.mem_cons.mp hm with rfl | hm
        · unfold okN
          dsimp only
          omega
        · obtain rfl := List.mem_singleton.mp hm
          unfold okN
          dsimp only
          omega
def sp__law_sums : Fs := fun cs q _ => ∃ ns w is, cs = [.fz (.tuple (List.map dN ns)), .fz (.int w), .fz (.tuple (List.map dI' is))] ∧ ((w = 0 ∨ w = 1) ∧ okNs ns ∧ okI ns is) ∧ q (.tuple [.int (sumS ns w is), .int (sumH ns w is)])
theorem ok__law_sums (T : Txt K mg A) (B : Tbs mg base A) : FnOk P w K mg base (L2.CX P w) 1 A.a__law_sums A.d__law_sums ["nights", "watcher", "some"] (Spf K (LL A) sp__law_sums) := by
  refine fn_flat T.f__law_sums sc__law_sums (by intro cs q r h; unfold sp__law_sums at h; first | (obtain ⟨_, rfl, _⟩ := h; rfl) | (obtain ⟨_, _, rfl, _⟩ := h; rfl) | (obtain ⟨_, _, _, rfl, _⟩ := h; rfl) | (obtain ⟨_, _, _, _, rfl, _⟩ := h; rfl) | (split at h <;> first | rfl | exact h.elim)) (fun cdv hcd A' outer s H E hr tk po => ?_)
  have nd := sc__law_sums.nd
  refine ⟨_, _, (fss_one (fs_ret (fe_tup (fl_cons (fe_bi1 cal_sum T.n_sum (by decide +kernel) (fb_fe (fe_n (fn_lc (own := [("k", 3)]) rfl nd (fi_seq (fe_var 2)) (blkOk_by (by kernel_rfl)) (fun s H C cl fp => (by apply FGc.cast; (case h => exact (fc_name (i := 3) nd (by decide))); (case q => (try dsimp only [FLG.gbx, Cx.blk]) <;> exact rfl))) (fun s H C cl fp => (by apply FTs.cast; (case h => exact fts_nil); (case q => (try dsimp only [FLG.gbx, Cx.blk]) <;> exact rfl))) (fun s H C cl fp => (by apply FE.cast; (case h => exact (fe_ix (fb_fe (fe_ix (fb_var 0) (fe_var 3))) (fe_mul fe_int (fe_var 1)))); (case q => (try dsimp only [FLG.gbx, Cx.blk]) <;> exact rfl))))))) (fl_cons (fe_bi1 cal_sum T.n_sum (by decide +kernel) (fb_fe (fe_n (fn_lc (own := [("k", 3)]) rfl nd (fi_seq (fe_var 2)) (blkOk_by (by kernel_rfl)) (fun s H C cl fp => (by apply FGc.cast; (case h => exact (fc_name (i := 3) nd (by decide))); (case q => (try dsimp only [FLG.gbx, Cx.blk]) <;> exact rfl))) (fun s H C cl fp => (by apply FTs.cast; (case h => exact fts_nil); (case q => (try dsimp only [FLG.gbx, Cx.blk]) <;> exact rfl))) (fun s H C cl fp => (by apply FE.cast; (case h => exact (fe_ix (fb_fe (fe_ix (fb_var 0) (fe_var 3))) (fe_add (fe_mul fe_int (fe_var 1)) fe_int))); (case q => (try dsimp only [FLG.gbx, Cx.blk]) <;> exact rfl))))))) fl_nil))))), ?_⟩
  clear hr tk po nd
  clear hcd
  rintro cs q r ⟨ns, w, is, rfl, ⟨hw, hn, hi⟩, h⟩
  walk_at "wp"
  have hl : (List.map dI' is).length ≤ sizeLine := by
    rw [List.length_map]
    exact Nat.le_trans hi.2.1 (by decide)
  refine lc_map (fun d => match d with | .int k => .int (seen w (ns.getD k.toNat nt0)) | _ => d) hl (fun d hd acc J hJ => ?_) ?_
  · obtain ⟨i, him, rfl⟩ := List.mem_map.mp hd
    have hil := hi.2.2 i him
    have hx : (List.map dN ns)[i]? = some (dN (ns.getD i nt0)) := by
      rw [List.getElem?_map, List.getElem?_eq_getElem hil, List.getD_eq_getElem?_getD, List.getElem?_eq_getElem hil]; rfl
    unfold dI' at hJ ⊢
    walk_at "wp"
    refine ix_nat hx ?_
    unfold dN
    rcases hw with rfl | rfl
    · exact ⟨mul_l (by decide) (by decide), _, rfl, hJ⟩
    · exact ⟨mul_l (by decide) (by decide), _, rfl, hJ⟩
  · refine ⟨is.map fun i => seen w (ns.getD i nt0), by simp [dI', Function.comp_def], ?_⟩
    refine lc_map (fun d => match d with | .int k => .int (hrs w (ns.getD k.toNat nt0)) | _ => d) hl (fun d hd acc J hJ => ?_) ?_
    · obtain ⟨i, him, rfl⟩ := List.mem_map.mp hd
      have hil := hi.2.2 i him
      have hx : (List.map dN ns)[i]? = some (dN (ns.getD i nt0)) := by
        rw [List.getElem?_map, List.getElem?_eq_getElem hil, List.getD_eq_getElem?_getD, List.getElem?_eq_getElem hil]; rfl
      unfold dI' at hJ ⊢
      walk_at "wp"
      refine ix_nat hx ?_
      unfold dN
      rcases hw with rfl | rfl
      · exact ⟨mul_l (by decide) (by decide), _, rfl, hJ⟩
      · exact ⟨mul_l (by decide) (by decide), _, rfl, hJ⟩
    · exact ⟨is.map fun i => hrs w (ns.getD i nt0), by simp [dI', Function.comp_def], by decide, h⟩
def sp__law_more : Fs := fun cs q _ => match cs with
  | [.fz (.tuple [.int a, .int b]), .fz (.tuple [.int c, .int d])] => (FL.MulOk a d ∧ FL.MulOk c b) ∧ q (.bool (decide (c * b < a * d)))
  | _ => False
theorem ok__law_more (T : Txt K mg A) (B : Tbs mg base A) : FnOk P w K mg base (L2.CX P w) 1 A.a__law_more A.d__law_more ["one", "other"] (Spf K (LL A) sp__law_more) := by
  refine fn_flat T.f__law_more sc__law_more (by intro cs q r h; unfold sp__law_more at h; first | (obtain ⟨_, rfl, _⟩ := h; rfl) | (obtain ⟨_, _, rfl, _⟩ := h; rfl) | (obtain ⟨_, _, _, rfl, _⟩ := h; rfl) | (obtain ⟨_, _, _, _, rfl, _⟩ := h; rfl) | (split at h <;> first | rfl | exact h.elim)) (fun cdv hcd A' outer s H E hr tk po => ?_)
  have nd := sc__law_more.nd
  refine ⟨_, _, (fss_one (fs_ret (fe_cmp cmd_gt (fb_fe (fe_mul (fe_ix (fb_var 0) fe_int) (fe_ix (fb_var 1) fe_int))) (fb_fe (fe_mul (fe_ix (fb_var 1) fe_int) (fe_ix (fb_var 0) fe_int)))))), ?_⟩
  clear hr tk po nd
  clear hcd
  intro cs q r h
  unfold sp__law_more at h
  split at h
  case h_2 => exact h.elim
  walk_at "wp"
  walk_at "sm"
  exact ⟨h.1.1, h.1.2, h.2⟩
def turnL (ns : List Nt) (is : List Nat) : Bool := decide (is ≠ []) && ((is.all fun i => grB ns [i]) && decide (sumS ns 0 is * sumH ns 1 is < sumS ns 1 is * sumH ns 0 is))
def sp__law_turned : Fs := fun cs q _ => ∃ ns is, cs = [.fz (.tuple (List.map dN ns)), .fz (.tuple (List.map dI' is))] ∧ (okNs ns ∧ is.length ≤ 100 ∧ ∀ i ∈ is, i < ns.length) ∧ q (.bool (turnL ns is))
local macro_rules | `(tactic| walk_at "wp") => `(tactic| try dsimp only [u_seq, u_next, u_drop, u_ret, u_retO, u_ifS, u_asg, u_setO, u_par, u_par3, u_parO, u_par3O, u_parOc, u_aug, u_for, u_app, u_fix, u_gname, l_map1, l_map0, b_nt, b_nf, c_t, c_f, wVar, wVarB, wC, wOp, dI, dI0, dAdd, wNeg, wCmpV, wCmpT, dEq, dNe, dO, isNoneD, dIsN, dNotN, wAndT, wOrT, wNotT, truOk, truD, wTruT, wNotV, wAndV, wOrV, wIf, wChain, wBoolV, wIx, wNil, wCons, wTup, wLst, wN, wANil, wACons, wADr, wCall, wCallN, wgNil, wgCons, wgTup, wSeqI, seqD, wRng1, wRng2, wRng3, wCal, dAbs, dMax2, dMin2, dInt1, wCalB, dLen, isIntD, isBoolD, isStrD, isTupD, isLstD, wIsi, wLRev, wListA, dTupA, startS, wO0, wO1, dSl, wSl, wSlN, wRepN, wRepT, dIn, dGcd, dIntsL, wStar, wSeti, wUnDr, wSetDr, spDraw, dBest, wSetL, wLc, wAll, wAny, wYes, stpAll, stpAny, u_wipe0, u_wipe1, u_lk0, u_lk1, lkC, spTake, List.getElem?_cons_zero, List.getElem?_cons_succ, List.getElem?_nil, List.set_cons_zero, List.set_cons_succ, List.length_cons, List.length_nil, List.replicate_succ, List.replicate_zero, List.cons_append, List.nil_append, Nat.reduceAdd, Nat.reduceSub, sp__law_more, sp__law_sums])
theorem ok__law_turned (T : Txt K mg A) (B : Tbs mg base A) : FnOk P w K mg base (L2.CX P w) 2 A.a__law_turned A.d__law_turned ["nights", "some"] (Spf K (LL A) sp__law_turned) := by
  refine fn_flat T.f__law_turned sc__law_turned (by intro cs q r h; unfold sp__law_turned at h; first | (obtain ⟨_, rfl, _⟩ := h; rfl) | (obtain ⟨_, _, rfl, _⟩ := h; rfl) | (obtain ⟨_, _, _, rfl, _⟩ := h; rfl) | (obtain ⟨_, _, _, _, rfl, _⟩ := h; rfl) | (split at h <;> first | rfl | exact h.elim)) (fun cdv hcd A' outer s H E hr tk po => ?_)
  have nd := sc__law_turned.nd
  refine ⟨_, _, (fss_cons (fs_if (ft_w (fw_or (ft_cmp (cmd_eq hr) (fb_var 1) (fb_fe (fe_tup fl_nil))) (fw_or1 (ft_cmp (cmd_ne hr) (fb_fe (fe_n (fn_lc (own := [("k", 2)]) rfl nd (fi_seq (fe_var 1)) (blkOk_by (by kernel_rfl)) (fun s H C cl fp => (by apply FGc.cast; (case h => exact (fc_name (i := 2) nd (by decide))); (case q => (try dsimp only [FLG.gbx, Cx.blk]) <;> exact rfl))) (fun s H C cl fp => (by apply FTs.cast; (case h => exact (fts_one (ft_not (ft_truth (fb_fe (fe_call (ok__law_more T B) (hr.mono (by decide)) (takes_wf) rfl T.m__law_more T.f__law_more.kp T.b__law_more (fa_cons (fe_call (ok__law_sums T B) (hr.mono (by decide)) (takes_wf) rfl T.m__law_sums T.f__law_sums.kp T.b__law_sums (fa_cons (fe_var 0) (fa_cons fe_int (fa_cons (fe_tup (fl_cons (fe_var 2) fl_nil)) fa_nil)))) (fa_cons (fe_call (ok__law_sums T B) (hr.mono (by decide)) (takes_wf) rfl T.m__law_sums T.f__law_sums.kp T.b__law_sums (fa_cons (fe_var 0) (fa_cons fe_int (fa_cons (fe_tup (fl_cons (fe_var 2) fl_nil)) fa_nil)))) fa_nil)))))))); (case q => (try dsimp only [FLG.gbx, Cx.blk]) <;> exact rfl))) (fun s H C cl fp => (by apply FE.cast; (case h => exact (fe_var 2)); (case q => (try dsimp only [FLG.gbx, Cx.blk]) <;> exact rfl)))))) (fb_fe (fe_n (fn_lst fl_nil)))))))
  (fss_one (fs_ret fe_bl))
  fss_nil)
 (fss_one (fs_ret (fe_call (ok__law_more T B) (hr.mono (by decide)) tk rfl T.m__law_more T.f__law_more.kp T.b__law_more (fa_cons (fe_call (ok__law_sums T B) (hr.mono (by decide)) tk rfl T.m__law_sums T.f__law_sums.kp T.b__law_sums (fa_cons (fe_var 0) (fa_cons fe_int (fa_cons (fe_var 1) fa_nil)))) (fa_cons (fe_call (ok__law_sums T B) (hr.mono (by decide)) tk rfl T.m__law_sums T.f__law_sums.kp T.b__law_sums (fa_cons (fe_var 0) (fa_cons fe_int (fa_cons (fe_var 1) fa_nil)))) fa_nil)))))), ?_⟩
  clear hr tk po nd
  clear hcd
  rintro cs q r ⟨ns, is, rfl, ⟨hn, hl, hi⟩, h⟩
  have shI : Sh 1 (.tuple (List.map dI' is)) := sh_t fun d hd => by
    obtain ⟨i, _, rfl⟩ := List.mem_map.mp hd
    exact sh_i
  have sz : (List.map dI' is).length ≤ sizeLine := by
    rw [List.length_map]
    exact Nat.le_trans hl (by decide)
  unfold turnL at h
  walk_at "wp"
  refine ⟨by decide, sh_eq shI sh_nilT, ?_⟩
  rw [ev_tnil]
  refine cond_of (fun z => ?_) (fun z => ?_)
  · have z : is = [] := by simpa using z
    rw [decide_eq_false (fun y => y z), Bool.false_and] at h
    exact h
  have z : is ≠ [] := by simpa using z
  rw [decide_eq_true z, Bool.true_and] at h
  have okis : okI ns is := ⟨z, hl, hi⟩
  refine lc_fm (fun d => match d with | .int k => if grB ns [k.toNat] = true then none else some d | _ => none) sz (fun d hd acc J h1 h2 => ?_) ?_
  · obtain ⟨i, him, rfl⟩ := List.mem_map.mp hd
    have o1 : okI ns [i] := ⟨by simp, by simp, by simpa using hi i him⟩
    have b0 := sumH_bd (w := 0) hn o1
    have b1 := sumH_bd (w := 1) hn o1
    unfold dI' at h1 h2 ⊢
    walk_at "wp"
    refine ⟨by decide, ns, 0, [i], rfl, ⟨.inl rfl, hn, o1⟩, by decide, ns, 1, [i], rfl, ⟨.inr rfl, hn, o1⟩, ?_⟩
    walk_at "wp"
    refine ⟨⟨mul_r (by omega) (by omega), mul_r (by omega) (by omega)⟩, ?_⟩
    refine ⟨trivial, ?_⟩
    rw [cond_not]
    refine FL.cond_of (fun y => h1 ?_) (fun y => h2 _ ?_)
    · show (if grB ns [i] = true then none else _) = none
      exact if_pos y
    · show (if grB ns [i] = true then none else _) = some _
      exact if_neg fun u => by
        have u : decide (sumS ns 1 [i] * sumH ns 0 [i] < sumS ns 0 [i] * sumH ns 1 [i]) = true := u
        rw [y] at u; cases u
  · have shF : ∀ (f : D → Option D), (∀ d e, f d = some e → e = d) → Sh 1 (.list ((List.map dI' is).filterMap f)) := fun f hf => sh_l fun d hd => by
      obtain ⟨a, ha, e⟩ := List.mem_filterMap.mp hd
      obtain ⟨i, _, rfl⟩ := List.mem_map.mp ha
      rw [hf _ _ e]
      exact sh_i
    refine ⟨by decide, sh_eq (shF _ fun d e y => ?_) sh_nilL, ?_⟩
    · split at y
      · split at y
        · cases y
        · cases y; rfl
      · cases y
    rw [ev_lnil]
    have e1 : (decide ((List.map dI' is).filterMap (fun d => match d with | .int k => if grB ns [k.toNat] = true then none else some d | _ => none) = [])) = is.all fun i => grB ns [i] := by
      rw [Bool.eq_iff_iff, decide_eq_true_iff, List.filterMap_eq_nil_iff, List.all_eq_true]
      constructor
      · intro u i hi
        have u := u _ (List.mem_map.mpr ⟨i, hi, rfl⟩)
        have u : (if grB ns [i] = true then none else some (dI' i)) = none := u
        split at u
        · assumption
        · cases u
      · rintro u d hd
        obtain ⟨i, hi, rfl⟩ := List.mem_map.mp hd
        exact if_pos (u i hi)
    rw [e1]
    rw [cond_not]
    refine FL.cond_of (fun y => ?_) (fun y => by rw [y, Bool.false_and] at h; exact h)
    rw [y, Bool.true_and] at h
    have b0 := sumH_bd (w := 0) hn okis
    have b1 := sumH_bd (w := 1) hn okis
    have c0 := sumS_bd (w := 0) hn okis
    have c1 := sumS_bd (w := 1) hn okis
    exact ⟨ns, 1, is, rfl, ⟨.inr rfl, hn, okis⟩, ns, 0, is, rfl, ⟨.inl rfl, hn, okis⟩, ⟨mul_r (by omega) (by omega), mul_r (by omega) (by omega)⟩, h⟩
theorem subs_cons : ∀ n, ∃ t, subs n = [] :: t ∧ ∀ r ∈ t, r ≠ []
  | 0 => ⟨[], rfl, fun r h => by cases h⟩
  | n + 1 => by
    obtain ⟨t, e, h⟩ := subs_cons n
    refine ⟨t ++ (subs n).map (· ++ [n]), by rw [subs, e]; rfl, fun r hr => ?_⟩
    rcases List.mem_append.mp hr with hr | hr
    · exact h r hr
    · obtain ⟨r', _, rfl⟩ := List.mem_map.mp hr
      intro z
      have := congrArg List.length z
      rw [List.length_append] at this
      cases this
theorem incr_iff {is : List Nat} : incrB is = true ↔ ∀ k, k + 1 < is.length → is.getD k 0 < is.getD (k + 1) 0 := by
  unfold incrB
  rw [List.all_eq_true]
  constructor
  · intro h k hk
    exact of_decide_eq_true (h k (List.mem_range.mpr (by omega)))
  · intro h k hk
    exact decide_eq_true (h k (by have := List.mem_range.mp hk; omega))
theorem subs_incr : ∀ {n : Nat} {r : List Nat}, r ∈ subs n → incrB r = true
  | 0, r, h => by
    have : r = [] := by simpa [subs] using h
    subst this
    rfl
  | n + 1, r, h => by
    unfold subs at h
    rcases List.mem_append.mp h with h | h
    · exact subs_incr h
    · obtain ⟨r', h', rfl⟩ := List.mem_map.mp h
      have ih := incr_iff.mp (subs_incr h')
      refine incr_iff.mpr fun k hk => ?_
      rw [List.length_append, List.length_singleton] at hk
      by_cases q : k + 1 < r'.length
      · have := ih k q
        rw [List.getD_eq_getElem?_getD, List.getD_eq_getElem?_getD] at this ⊢
        rw [List.getElem?_append_left (by omega), List.getElem?_append_left q]
        exact this
      · have e : k + 1 = r'.length := by omega
        have hk2 : k < r'.length := by omega
        rw [List.getD_eq_getElem?_getD, List.getD_eq_getElem?_getD, List.getElem?_append_left hk2, e, List.getElem?_append_right (Nat.le_refl _), Nat.sub_self, List.getElem?_eq_getElem hk2]
        exact (subs_in h').2 _ (List.getElem_mem hk2)
theorem turn_eq {ns : List Nt} {r : List Nat} (h : incrB r = true) : turnL ns r = turnB ns r := by
  unfold turnL turnB
  rw [h, Bool.true_and]
theorem turn_two {ns : List Nt} {r : List Nat} (h : turnB ns r = true) : 2 ≤ r.length := by
  unfold turnB at h
  match r, h with
  | [], h => simp at h
  | [i], h =>
    have h1 : grB ns [i] = true ∧ sumS ns 0 [i] * sumH ns 1 [i] < sumS ns 1 [i] * sumH ns 0 [i] := by
      simpa [incrB] using h
    have a := of_decide_eq_true h1.1
    have b := h1.2
    omega
  | _ :: _ :: _, _ => exact Nat.le_add_left 2 _
theorem sum_lt {f g : Nat → Int} : ∀ {is : List Nat}, is ≠ [] → (∀ i ∈ is, f i < g i) → (is.map f).sum < (is.map g).sum
  | [], h, _ => absurd rfl h
  | [i], _, h => by
    have := h i List.mem_cons_self
    simpa using this
  | i :: j :: is, _, h => by
    have h1 := h i List.mem_cons_self
    have h2 := sum_lt (is := j :: is) (by simp) fun k hk => h k (List.mem_cons_of_mem _ hk)
    rw [List.map_cons, List.sum_cons, List.map_cons (f := g), List.sum_cons]
    omega
theorem sum_mul {f : Nat → Int} {c : Int} : ∀ {is : List Nat}, (is.map fun i => f i * c).sum = (is.map f).sum * c
  | [] => by simp
  | i :: is => by rw [List.map_cons, List.sum_cons, List.map_cons, List.sum_cons, sum_mul, Int.add_mul]
theorem isNight_dN {n : Nt} (h : okN n) : isNight (dN n) = true := by
  unfold isNight dN isNum
  dsimp only
  obtain ⟨⟨a, b⟩, ⟨c, d⟩, ⟨e, f⟩, ⟨g, i⟩⟩ := h
  rw [decide_eq_true a, decide_eq_true b, decide_eq_true c, decide_eq_true d, decide_eq_true e, decide_eq_true f, decide_eq_true g, decide_eq_true i]
  rfl
theorem areN_dN {ns : List Nt} (h : okNs ns) (h1 : 1 ≤ ns.length) : areNights (.tuple (List.map dN ns)) = true := by
  unfold areNights
  dsimp only
  have := h.1
  rw [List.length_map, decide_eq_true h1, decide_eq_true this, Bool.true_and, Bool.true_and, List.all_map, List.all_eq_true]
  exact fun n hn => isNight_dN (h.2 n hn)
def fO : D → D
  | .tuple [.int k, o] => .tuple [.tuple (cutL [.int 1, .int 1, .int 1, .int 1] none (some k) ++ [o] ++ cutL [.int 1, .int 1, .int 1, .int 1] (some (k + 1)) none)]
  | d => d
def oneD (ns : List Nt) (w : Int) (k : Nat) : D := .tuple [.int (sumS ns w [k]), .int (sumH ns w [k])]
theorem ones_ne {ns : List Nt} {w : Int} {p : D → Bool} {r : List Nat} (h : ¬ ∀ k ∈ r, p (oneD ns w k) = false) : (r.map (oneD ns w)).filter p ≠ [] := by
  intro z
  rw [List.filter_eq_nil_iff] at z
  refine h fun k hk => ?_
  have := z _ (List.mem_map.mpr ⟨k, hk, rfl⟩)
  exact Bool.eq_false_iff.mpr this
theorem sumS1 {ns : List Nt} {w : Int} {r : List Nat} : (r.map fun k => sumS ns w [k]).sum = sumS ns w r := by simp [sumS]
theorem sumH1 {ns : List Nt} {w : Int} {r : List Nat} : (r.map fun k => sumH ns w [k]).sum = sumH ns w r := by simp [sumH]
theorem med_lo {ns : List Nt} {w : Int} {r : List Nat} (h0 : r ≠ []) (h : ∀ k ∈ r, sumS ns w [k] * sumH ns w r < sumS ns w r * sumH ns w [k]) : False := by
  have := sum_lt (f := fun k => sumS ns w [k] * sumH ns w r) (g := fun k => sumH ns w [k] * sumS ns w r) h0 fun k hk => by
    have := h k hk
    rw [Int.mul_comm (sumH ns w [k])]
    exact this
  rw [sum_mul, sum_mul, sumS1, sumH1, Int.mul_comm] at this
  omega
theorem med_hi {ns : List Nt} {w : Int} {r : List Nat} (h0 : r ≠ []) (h : ∀ k ∈ r, sumS ns w r * sumH ns w [k] < sumS ns w [k] * sumH ns w r) : False := by
  have := sum_lt (f := fun k => sumH ns w [k] * sumS ns w r) (g := fun k => sumS ns w [k] * sumH ns w r) h0 fun k hk => by
    have := h k hk
    rw [Int.mul_comm (sumH ns w [k])]
    exact this
  rw [sum_mul, sum_mul, sumS1, sumH1, Int.mul_comm] at this
  omega
def evN (t : Int) (n : Nt) : Nt := (n.1, (if n.2.1 < 8 then n.2.1 else 8) * t, n.2.2.1, if n.2.1 < 8 then n.2.1 else 8)
def fE (t : Int) : D → D
  | .tuple [.int a, .int b, .int c, .int e] => dN (evN t (a, b, c, e))
  | d => d
theorem even_ok {ns : List Nt} {t : Int} (h : okNs ns) (t1 : 1 ≤ t) (t3 : t ≤ 3) : okNs (ns.map (evN t)) := by
  refine ⟨by rw [List.length_map]; exact h.1, fun n hn => ?_⟩
  obtain ⟨m, hm, rfl⟩ := List.mem_map.mp hn
  have := h.2 m hm
  unfold okN evN at *
  dsimp only
  rcases (show t = 1 ∨ t = 2 ∨ t = 3 by omega) with rfl | rfl | rfl <;> (split <;> omega)
theorem even_h {ns : List Nt} {t : Int} {k : Nat} (hk : k < ns.length) : sumH (ns.map (evN t)) 0 [k] = sumH (ns.map (evN t)) 1 [k] * t := by
  have e : (ns.map (evN t)).getD k nt0 = evN t ns[k] := by
    rw [List.getD_eq_getElem?_getD, List.getElem?_map, List.getElem?_eq_getElem hk]
    rfl
  unfold sumH
  simp only [List.map_cons, List.map_nil, List.sum_cons, List.sum_nil, Int.add_zero]
  rw [e]
  rfl
theorem even_no {ns : List Nt} {t : Int} {r : List Nat} (h : okNs ns) (t1 : 1 ≤ t) (t3 : t ≤ 3) (hr : ∀ k ∈ r, k < ns.length) : turnB (ns.map (evN t)) r = false := by
  cases z : turnB (ns.map (evN t)) r with
  | false => rfl
  | true =>
    exfalso
    have ok := even_ok h t1 t3
    unfold turnB at z
    rw [Bool.and_eq_true, Bool.and_eq_true, Bool.and_eq_true, decide_eq_true_eq, decide_eq_true_eq, List.all_eq_true] at z
    obtain ⟨z0, _, z1, z2⟩ := z
    have hH : sumH (ns.map (evN t)) 0 r = sumH (ns.map (evN t)) 1 r * t := by
      rw [← sumH1, ← sumH1, ← sum_mul]
      congr 1
      exact List.map_congr_left fun k hk => even_h (hr k hk)
    have hS : sumS (ns.map (evN t)) 1 r * t < sumS (ns.map (evN t)) 0 r := by
      rw [← sumS1, ← sumS1, ← sum_mul]
      refine sum_lt z0 fun k hk => ?_
      have b := sumH_bd (w := 1) ok (is := [k]) ⟨by simp, by simp, by simpa using hr k hk⟩
      have := of_decide_eq_true (z1 k hk)
      rw [even_h (hr k hk)] at this
      have e : sumS (ns.map (evN t)) 1 [k] * (sumH (ns.map (evN t)) 1 [k] * t) = (sumS (ns.map (evN t)) 1 [k] * t) * sumH (ns.map (evN t)) 1 [k] := by grind
      rw [e] at this
      exact Int.lt_of_mul_lt_mul_right this (by omega)
    have b : 1 ≤ sumH (ns.map (evN t)) 1 r := by
      have := sum_bd (f := fun k => sumH (ns.map (evN t)) 1 [k]) (is := r) (lo := 1) (hi := 2400) fun k hk => sumH_bd (w := 1) ok ⟨by simp, by simp, by simpa using hr k hk⟩
      rw [sumH1] at this
      have h1 : 0 < r.length := List.length_pos_iff.mpr z0
      omega
    rw [hH] at z2
    have e : sumS (ns.map (evN t)) 1 r * (sumH (ns.map (evN t)) 1 r * t) = (sumS (ns.map (evN t)) 1 r * t) * sumH (ns.map (evN t)) 1 r := by grind
    rw [e] at z2
    have := Int.mul_lt_mul_of_pos_right hS (show 0 < sumH (ns.map (evN t)) 1 r by omega)
    omega
theorem areT_out {ns : List Nt} {k : Int} (h : ¬ (0 ≤ k ∧ k ≤ (ns.length : Int) - 1)) : areT ns (.tuple [.int k]) = false := by
  unfold areT
  dsimp only
  have : idxD ns.length [.int k] = none := by
    unfold idxD
    dsimp only
    rw [if_neg h]
  rw [this]
theorem areT_noinc {ns : List Nt} {is : List Nat} (h : ∀ i ∈ is, i < ns.length) (hb : incrB is = false) : areT ns (.tuple (is.map dI')) = false := by
  have := areT_row (ns := ns) h
  unfold dRow at this
  rw [this]
  unfold turnB
  rw [hb, Bool.false_and, Bool.and_false]
theorem areT_noinc0 {ns : List Nt} : areT ns (.tuple []) = false := by
  have := areT_row (ns := ns) (r := []) (fun i hi => by cases hi)
  unfold dRow at this
  rw [List.map_nil] at this
  rw [this]
  unfold turnB
  rw [decide_eq_false (fun z => z rfl), Bool.false_and]
local macro_rules | `(tactic| walk_at "wp") => `(tactic| try dsimp only [u_seq, u_next, u_drop, u_ret, u_retO, u_ifS, u_asg, u_setO, u_par, u_par3, u_parO, u_par3O, u_parOc, u_aug, u_for, u_app, u_fix, u_gname, l_map1, l_map0, b_nt, b_nf, c_t, c_f, wVar, wVarB, wC, wOp, dI, dI0, dAdd, wNeg, wCmpV, wCmpT, dEq, dNe, dO, isNoneD, dIsN, dNotN, wAndT, wOrT, wNotT, truOk, truD, wTruT, wNotV, wAndV, wOrV, wIf, wChain, wBoolV, wIx, wNil, wCons, wTup, wLst, wN, wANil, wACons, wADr, wCall, wCallN, wgNil, wgCons, wgTup, wSeqI, seqD, wRng1, wRng2, wRng3, wCal, dAbs, dMax2, dMin2, dInt1, wCalB, dLen, isIntD, isBoolD, isStrD, isTupD, isLstD, wIsi, wLRev, wListA, dTupA, startS, wO0, wO1, dSl, wSl, wSlN, wRepN, wRepT, dIn, dGcd, dIntsL, wStar, wSeti, wUnDr, wSetDr, spDraw, dBest, wSetL, wLc, wAll, wAny, wYes, stpAll, stpAny, u_wipe0, u_wipe1, u_lk0, u_lk1, lkC, spTake, List.getElem?_cons_zero, List.getElem?_cons_succ, List.getElem?_nil, List.set_cons_zero, List.set_cons_succ, List.length_cons, List.length_nil, List.replicate_succ, List.replicate_zero, List.cons_append, List.nil_append, Nat.reduceAdd, Nat.reduceSub, sp__law_draws, sp__law_nights, sp_told_turned, sp_are_nights, sp__law_turned, sp__law_alike, sp__law_sums, sp_are_turned, sp_rate_over, sp__law_lowest, sp__law_more])
theorem ok_law (T : Txt K mg A) (B : Tbs mg base A) : FnOk P w K mg base (L2.CX P w) 7 A.a_law A.d_law ["script"] (spLaw K (LL A)) := by
  refine fn_law (i := 1) T.f_law sc_law rfl (fun cdv hcd A' outer s H E hr tk po => ?_)
  have nd := sc_law.nd
  refine ⟨_, _, _, _, FS.pe (L := LL A) (W := fun cls d _ H => E cls d H) (fs_own (i := 1) nd (fn_call (ok__law_draws T B) (hr.mono (by decide)) tk rfl T.m__law_draws T.f__law_draws.kp T.b__law_draws (fa_cons (fe_var 0) fa_nil))), (fn_call (ok__law_draws T B) (hr.mono (by decide)) tk rfl T.m__law_draws T.f__law_draws.kp T.b__law_draws (fa_cons (fe_var 0) fa_nil)),
 (fss_cons (fs_set (i := 2) nd (fe_call (ok__law_nights T B) (hr.mono (by decide)) tk rfl T.m__law_nights T.f__law_nights.kp T.b__law_nights (fa_dr 1 fa_nil)))
 (fss_cons (fs_asg (fe_tup (fl_cons (fe_bi1 cal_len T.n_len PySem.boot_len (fb_var 2)) (fl_cons (fe_tup (fl_cons fe_int (fl_cons fe_int (fl_cons fe_int (fl_cons fe_int fl_nil))))) fl_nil))) (fg_tup (n := 2) rfl (fgs_cons (fg_name (i := 11) nd) (fgs_cons (fg_name (i := 12) nd) fgs_nil))))
 (fss_cons (fs_set (i := 3) nd (fe_n (fn_lst (fl_cons fe_non (fl_cons (fe_tup fl_nil) (fl_cons (fe_n (fn_list T.n_list (fb_var 2))) (fl_cons (fe_repT (fe_tup (fl_cons (fe_var 12) fl_nil)) fe_int) (fl_cons fe_str (fl_cons fe_int (fl_cons (fe_tup (fl_cons fe_non fl_nil)) (fl_cons (fe_tup (fl_cons (fe_sl (fb_var 12) fo_none (fo_some fe_int)) fl_nil)) (fl_cons (fe_tup (fl_cons (fe_add (fe_var 12) (fe_tup (fl_cons fe_int fl_nil))) fl_nil)) (fl_cons (fe_tup (fl_cons (fe_n (fn_list T.n_list (fb_var 12))) fl_nil)) fl_nil)))))))))))))
 (fss_cons (fs_set (i := 3) nd (fe_add (fe_var 3) (fe_n (fn_lc (own := [("k", 19), ("one", 20)]) rfl nd (fi_seq (fe_n (fn_lst (fl_cons (fe_tup (fl_cons fe_int (fl_cons (fe_neg fe_int) fl_nil))) (fl_cons (fe_tup (fl_cons fe_int (fl_cons fe_int fl_nil))) (fl_cons (fe_tup (fl_cons fe_int (fl_cons fe_non fl_nil))) (fl_cons (fe_tup (fl_cons fe_int (fl_cons fe_int fl_nil))) (fl_cons (fe_tup (fl_cons fe_int (fl_cons fe_int fl_nil))) (fl_cons (fe_tup (fl_cons fe_int (fl_cons fe_bl fl_nil))) (fl_cons (fe_tup (fl_cons fe_int (fl_cons (fe_neg fe_int) fl_nil))) (fl_cons (fe_tup (fl_cons fe_int (fl_cons fe_int fl_nil))) (fl_cons (fe_tup (fl_cons fe_int (fl_cons fe_str fl_nil))) (fl_cons (fe_tup (fl_cons fe_int (fl_cons fe_int fl_nil))) (fl_cons (fe_tup (fl_cons fe_int (fl_cons fe_int fl_nil))) (fl_cons (fe_tup (fl_cons fe_int (fl_cons fe_non fl_nil))) fl_nil))))))))))))))) (blkOk_by (by kernel_rfl)) (fun s H C cl fp => (by apply FGc.cast; (case h => exact (fc_tup (n := 2) rfl (fcs_cons (fc_name (i := 19) nd (by decide)) (fcs_cons (fc_name (i := 20) nd (by decide)) fcs_nil)))); (case q => (try dsimp only [FLG.gbx, Cx.blk]) <;> exact rfl))) (fun s H C cl fp => (by apply FTs.cast; (case h => exact fts_nil); (case q => (try dsimp only [FLG.gbx, Cx.blk]) <;> exact rfl))) (fun s H C cl fp => (by apply FE.cast; (case h => exact (fe_tup (fl_cons (fe_add (fe_add (fe_sl (fb_var 12) fo_none (fo_some (fe_var 19))) (fe_tup (fl_cons (fe_var 20) fl_nil))) (fe_sl (fb_var 12) (fo_some (fe_add (fe_var 19) fe_int)) fo_none)) fl_nil))); (case q => (try dsimp only [FLG.gbx, Cx.blk]) <;> exact rfl)))))))
 (fss_cons (fs_if (ft_w (fw_or (ft_cmp cmd_isnot (fb_fe (fe_call (ok_are_nights T B) (hr.mono (by decide)) tk rfl T.m_are_nights T.f_are_nights.kp T.b_are_nights (fa_cons (fe_var 2) fa_nil))) (fb_fe fe_bl)) (fw_or (ft_cmp cmd_isnot (fb_fe (fe_call (ok_are_nights T B) (hr.mono (by decide)) tk rfl T.m_are_nights T.f_are_nights.kp T.b_are_nights (fa_cons (fe_repT (fe_tup (fl_cons (fe_tup (fl_cons fe_int (fl_cons fe_int (fl_cons fe_int (fl_cons fe_int fl_nil))))) fl_nil)) fe_int) fa_nil))) (fb_fe fe_bl)) (fw_or1 (ft_cmp (cmd_ne hr) (fb_fe (fe_n (fn_lc (own := [("value", 18)]) rfl nd (fi_seq (fe_var 3)) (blkOk_by (by kernel_rfl)) (fun s H C cl fp => (by apply FGc.cast; (case h => exact (fc_name (i := 18) nd (by decide))); (case q => (try dsimp only [FLG.gbx, Cx.blk]) <;> exact rfl))) (fun s H C cl fp => (by apply FTs.cast; (case h => exact (fts_one (ft_cmp cmd_isnot (fb_fe (fe_call (ok_are_nights T B) (hr.mono (by decide)) (takes_wf) rfl T.m_are_nights T.f_are_nights.kp T.b_are_nights (fa_cons (fe_var 18) fa_nil))) (fb_fe fe_bl)))); (case q => (try dsimp only [FLG.gbx, Cx.blk]) <;> exact rfl))) (fun s H C cl fp => (by apply FE.cast; (case h => exact (fe_var 18)); (case q => (try dsimp only [FLG.gbx, Cx.blk]) <;> exact rfl)))))) (fb_fe (fe_n (fn_lst fl_nil))))))))
  (fss_one (fs_ret fe_bl))
  fss_nil)
 (fss_cons (fs_set (i := 4) nd (fe_n (fn_lst (fl_cons (fe_tup fl_nil) fl_nil))))
 (fss_cons (fs_for po rfl (fi_rng1 T.n_range (fl_cons (fe_var 11) fl_nil)) (fg_name (i := 5) nd)
  (fss_one (fs_set (i := 4) nd (fe_add (fe_var 4) (fe_n (fn_lc (own := [("row", 13)]) rfl nd (fi_seq (fe_var 4)) (blkOk_by (by kernel_rfl)) (fun s H C cl fp => (by apply FGc.cast; (case h => exact (fc_name (i := 13) nd (by decide))); (case q => (try dsimp only [FLG.gbx, Cx.blk]) <;> exact rfl))) (fun s H C cl fp => (by apply FTs.cast; (case h => exact fts_nil); (case q => (try dsimp only [FLG.gbx, Cx.blk]) <;> exact rfl))) (fun s H C cl fp => (by apply FE.cast; (case h => exact (fe_add (fe_var 13) (fe_tup (fl_cons (fe_var 5) fl_nil)))); (case q => (try dsimp only [FLG.gbx, Cx.blk]) <;> exact rfl)))))))))
 (fss_cons (fs_setLc (own := [("row", 13)]) (i := 6) rfl nd (fi_seq (fe_var 4)) (blkOk_by (by kernel_rfl)) (fun s H C cl fp => (by apply FGc.cast; (case h => exact (fc_name (i := 13) nd (by decide))); (case q => (try dsimp only [FLG.gbx, Cx.blk]) <;> exact rfl))) (fun s H C cl fp => (by apply FTs.cast; (case h => exact (fts_one (ft_truth (fb_fe (fe_call (ok__law_turned T B) (hr.mono (by decide)) (takes_wf) rfl T.m__law_turned T.f__law_turned.kp T.b__law_turned (fa_cons (fe_var 2) (fa_cons (fe_var 13) fa_nil))))))); (case q => (try dsimp only [FLG.gbx, Cx.blk]) <;> exact rfl))) (fun s H C cl fp => (by apply FE.cast; (case h => exact (fe_var 13)); (case q => (try dsimp only [FLG.gbx, Cx.blk]) <;> exact rfl))))
 (fss_cons (fs_set (i := 7) nd (fe_if (ft_cmp (cmd_ne hr) (fb_var 6) (fb_fe (fe_n (fn_lst fl_nil)))) (fe_ix (fb_fe (fe_bi1 (cal_minA hr) T.n_min (by decide +kernel) (fb_fe (fe_n (fn_lc (own := [("row", 13)]) rfl nd (fi_seq (fe_var 6)) (blkOk_by (by kernel_rfl)) (fun s H C cl fp => (by apply FGc.cast; (case h => exact (fc_name (i := 13) nd (by decide))); (case q => (try dsimp only [FLG.gbx, Cx.blk]) <;> exact rfl))) (fun s H C cl fp => (by apply FTs.cast; (case h => exact fts_nil); (case q => (try dsimp only [FLG.gbx, Cx.blk]) <;> exact rfl))) (fun s H C cl fp => (by apply FE.cast; (case h => exact (fe_tup (fl_cons (fe_bi1 cal_len T.n_len PySem.boot_len (fb_var 13)) (fl_cons (fe_var 13) fl_nil)))); (case q => (try dsimp only [FLG.gbx, Cx.blk]) <;> exact rfl)))))))) fe_int) fe_non))
 (fss_cons (fs_if (ft_w (fw_or (ft_not (ft_truth (fb_fe (fe_call (ok__law_alike T B 1) (hr.mono (by decide)) tk rfl T.m__law_alike T.f__law_alike.kp T.b__law_alike (fa_cons (fe_call (ok_told_turned T B) (hr.mono (by decide)) tk rfl T.m_told_turned T.f_told_turned.kp T.b_told_turned (fa_cons (fe_var 2) fa_nil)) (fa_cons (fe_var 7) fa_nil)))))) (fw_or1 (ft_w (fw_and (ft_cmp cmd_isnot (fb_var 7) (fb_fe fe_non)) (fw_and1 (ft_cmp cmd_lt (fb_fe (fe_bi1 cal_len T.n_len PySem.boot_len (fb_var 7))) (fb_fe fe_int))))))))
  (fss_one (fs_ret fe_bl))
  fss_nil)
 (fss_cons (fs_for po rfl (fi_rng1 T.n_range (fl_cons fe_int fl_nil)) (fg_name (i := 8) nd)
  (fss_cons (fs_set (i := 13) nd (fe_ix (fb_var 4) (fe_add fe_int (fe_call (ok__law_take T B) (hr.mono (by decide)) tk rfl T.m__law_take T.f__law_take.kp T.b__law_take (fa_dr 1 (fa_cons (fe_sub (fe_bi1 cal_len T.n_len PySem.boot_len (fb_var 4)) fe_int) fa_nil))))))
 (fss_cons (fs_if (ft_w (fw_and (ft_cmp cmd_lt (fb_var 8) (fb_fe fe_int)) (fw_and1 (ft_cmp (cmd_ne hr) (fb_var 6) (fb_fe (fe_n (fn_lst fl_nil)))))))
  (fss_one (fs_set (i := 13) nd (fe_ix (fb_var 6) (fe_call (ok__law_take T B) (hr.mono (by decide)) tk rfl T.m__law_take T.f__law_take.kp T.b__law_take (fa_dr 1 (fa_cons (fe_bi1 cal_len T.n_len PySem.boot_len (fb_var 6)) fa_nil))))))
  fss_nil)
 (fss_cons (fs_if (ft_not (ft_truth (fb_fe (fe_call (ok__law_alike T B 1) (hr.mono (by decide)) tk rfl T.m__law_alike T.f__law_alike.kp T.b__law_alike (fa_cons (fe_call (ok_are_turned T B) (hr.mono (by decide)) tk rfl T.m_are_turned T.f_are_turned.kp T.b_are_turned (fa_cons (fe_var 2) (fa_cons (fe_var 13) fa_nil))) (fa_cons (fe_in hr (fe_var 13) (fb_var 6)) fa_nil))))))
  (fss_one (fs_ret fe_bl))
  fss_nil)
 (fss_one (fs_for po rfl (fi_rng1 T.n_range (fl_cons fe_int fl_nil)) (fg_name (i := 14) nd)
  (fss_cons (fs_asg (fe_call (ok__law_sums T B) (hr.mono (by decide)) tk rfl T.m__law_sums T.f__law_sums.kp T.b__law_sums (fa_cons (fe_var 2) (fa_cons (fe_var 14) (fa_cons (fe_var 13) fa_nil)))) (fg_tup (n := 2) rfl (fgs_cons (fg_name (i := 16) nd) (fgs_cons (fg_name (i := 17) nd) fgs_nil))))
 (fss_cons (fs_if (ft_not (ft_truth (fb_fe (fe_call (ok__law_alike T B 1) (hr.mono (by decide)) tk rfl T.m__law_alike T.f__law_alike.kp T.b__law_alike (fa_cons (fe_call (ok_rate_over T B) (hr.mono (by decide)) tk rfl T.m_rate_over T.f_rate_over.kp T.b_rate_over (fa_cons (fe_var 2) (fa_cons (fe_var 14) (fa_cons (fe_var 13) fa_nil)))) (fa_cons (fe_call (ok__law_lowest T B) (hr.mono (by decide)) tk rfl T.m__law_lowest T.f__law_lowest.kp T.b__law_lowest (fa_cons (fe_var 16) (fa_cons (fe_var 17) fa_nil))) fa_nil))))))
  (fss_one (fs_ret fe_bl))
  fss_nil)
 (fss_cons (fs_setLc (own := [("k", 19)]) (i := 15) rfl nd (fi_seq (fe_var 13)) (blkOk_by (by kernel_rfl)) (fun s H C cl fp => (by apply FGc.cast; (case h => exact (fc_name (i := 19) nd (by decide))); (case q => (try dsimp only [FLG.gbx, Cx.blk]) <;> exact rfl))) (fun s H C cl fp => (by apply FTs.cast; (case h => exact fts_nil); (case q => (try dsimp only [FLG.gbx, Cx.blk]) <;> exact rfl))) (fun s H C cl fp => (by apply FE.cast; (case h => exact (fe_call (ok__law_sums T B) (hr.mono (by decide)) (takes_wf) rfl T.m__law_sums T.f__law_sums.kp T.b__law_sums (fa_cons (fe_var 2) (fa_cons (fe_var 14) (fa_cons (fe_tup (fl_cons (fe_var 19) fl_nil)) fa_nil))))); (case q => (try dsimp only [FLG.gbx, Cx.blk]) <;> exact rfl))))
 (fss_one (fs_if (ft_w (fw_or (ft_cmp (cmd_eq hr) (fb_fe (fe_n (fn_lc (own := [("one", 20)]) rfl nd (fi_seq (fe_var 15)) (blkOk_by (by kernel_rfl)) (fun s H C cl fp => (by apply FGc.cast; (case h => exact (fc_name (i := 20) nd (by decide))); (case q => (try dsimp only [FLG.gbx, Cx.blk]) <;> exact rfl))) (fun s H C cl fp => (by apply FTs.cast; (case h => exact (fts_one (ft_not (ft_truth (fb_fe (fe_call (ok__law_more T B) (hr.mono (by decide)) (takes_wf) rfl T.m__law_more T.f__law_more.kp T.b__law_more (fa_cons (fe_tup (fl_cons (fe_var 16) (fl_cons (fe_var 17) fl_nil))) (fa_cons (fe_var 20) fa_nil)))))))); (case q => (try dsimp only [FLG.gbx, Cx.blk]) <;> exact rfl))) (fun s H C cl fp => (by apply FE.cast; (case h => exact (fe_var 20)); (case q => (try dsimp only [FLG.gbx, Cx.blk]) <;> exact rfl)))))) (fb_fe (fe_n (fn_lst fl_nil)))) (fw_or1 (ft_cmp (cmd_eq hr) (fb_fe (fe_n (fn_lc (own := [("one", 20)]) rfl nd (fi_seq (fe_var 15)) (blkOk_by (by kernel_rfl)) (fun s H C cl fp => (by apply FGc.cast; (case h => exact (fc_name (i := 20) nd (by decide))); (case q => (try dsimp only [FLG.gbx, Cx.blk]) <;> exact rfl))) (fun s H C cl fp => (by apply FTs.cast; (case h => exact (fts_one (ft_not (ft_truth (fb_fe (fe_call (ok__law_more T B) (hr.mono (by decide)) (takes_wf) rfl T.m__law_more T.f__law_more.kp T.b__law_more (fa_cons (fe_var 20) (fa_cons (fe_tup (fl_cons (fe_var 16) (fl_cons (fe_var 17) fl_nil))) fa_nil)))))))); (case q => (try dsimp only [FLG.gbx, Cx.blk]) <;> exact rfl))) (fun s H C cl fp => (by apply FE.cast; (case h => exact (fe_var 20)); (case q => (try dsimp only [FLG.gbx, Cx.blk]) <;> exact rfl)))))) (fb_fe (fe_n (fn_lst fl_nil)))))))
  (fss_one (fs_ret fe_bl))
  fss_nil)))))))))))
 (fss_cons (fs_set (i := 9) nd (fe_add fe_int (fe_call (ok__law_take T B) (hr.mono (by decide)) tk rfl T.m__law_take T.f__law_take.kp T.b__law_take (fa_dr 1 (fa_cons fe_int fa_nil)))))
 (fss_cons (fs_set (i := 10) nd (fe_ty1 cal_tuple T.n_tuple (by decide +kernel) (fb_fe (fe_n (fn_lc (own := [("row", 13)]) rfl nd (fi_seq (fe_var 2)) (blkOk_by (by kernel_rfl)) (fun s H C cl fp => (by apply FGc.cast; (case h => exact (fc_name (i := 13) nd (by decide))); (case q => (try dsimp only [FLG.gbx, Cx.blk]) <;> exact rfl))) (fun s H C cl fp => (by apply FTs.cast; (case h => exact fts_nil); (case q => (try dsimp only [FLG.gbx, Cx.blk]) <;> exact rfl))) (fun s H C cl fp => (by apply FE.cast; (case h => exact (fe_tup (fl_cons (fe_ix (fb_var 13) fe_int) (fl_cons (fe_mul (fe_bi (cal_min2 rfl) T.n_min (by decide +kernel) (fl_cons fe_int (fl_cons (fe_ix (fb_var 13) fe_int) fl_nil))) (fe_var 9)) (fl_cons (fe_ix (fb_var 13) fe_int) (fl_cons (fe_bi (cal_min2 rfl) T.n_min (by decide +kernel) (fl_cons fe_int (fl_cons (fe_ix (fb_var 13) fe_int) fl_nil))) fl_nil)))))); (case q => (try dsimp only [FLG.gbx, Cx.blk]) <;> exact rfl))))))))
 (fss_cons (fs_if (ft_cmp cmd_isnot (fb_fe (fe_call (ok_told_turned T B) (hr.mono (by decide)) tk rfl T.m_told_turned T.f_told_turned.kp T.b_told_turned (fa_cons (fe_var 10) fa_nil))) (fb_fe fe_non))
  (fss_one (fs_ret fe_bl))
  fss_nil)
 (fss_cons (fs_set (i := 3) nd (fe_add (fe_n (fn_lst (fl_cons fe_non (fl_cons (fe_n (fn_lst (fl_cons fe_int fl_nil))) (fl_cons (fe_tup fl_nil) (fl_cons (fe_tup (fl_cons (fe_var 11) fl_nil)) (fl_cons (fe_tup (fl_cons (fe_neg fe_int) fl_nil)) (fl_cons (fe_tup (fl_cons fe_non fl_nil)) (fl_cons (fe_tup (fl_cons fe_str fl_nil)) (fl_cons (fe_tup (fl_cons fe_int (fl_cons fe_int fl_nil))) (fl_cons fe_str (fl_cons fe_int fl_nil)))))))))))) (fe_n (fn_rep (fn_lst (fl_cons (fe_tup (fl_cons fe_int (fl_cons fe_int fl_nil))) fl_nil)) (fe_ty cal_int1 T.n_int (by decide +kernel) (fl_cons (fe_cmp cmd_gt (fb_var 11) (fb_fe fe_int)) fl_nil))))))
 (fss_one (fs_ret (fe_cmp (cmd_eq hr) (fb_fe (fe_n (fn_lc (own := [("value", 18)]) rfl nd (fi_seq (fe_var 3)) (blkOk_by (by kernel_rfl)) (fun s H C cl fp => (by apply FGc.cast; (case h => exact (fc_name (i := 18) nd (by decide))); (case q => (try dsimp only [FLG.gbx, Cx.blk]) <;> exact rfl))) (fun s H C cl fp => (by apply FTs.cast; (case h => exact (fts_one (ft_cmp cmd_isnot (fb_fe (fe_call (ok_are_turned T B) (hr.mono (by decide)) (takes_wf) rfl T.m_are_turned T.f_are_turned.kp T.b_are_turned (fa_cons (fe_var 2) (fa_cons (fe_var 18) fa_nil)))) (fb_fe fe_bl)))); (case q => (try dsimp only [FLG.gbx, Cx.blk]) <;> exact rfl))) (fun s H C cl fp => (by apply FE.cast; (case h => exact (fe_var 18)); (case q => (try dsimp only [FLG.gbx, Cx.blk]) <;> exact rfl)))))) (fb_fe (fe_n (fn_lst fl_nil))))))))))))))))))))), ?_⟩
  clear hr tk po nd
  clear hcd
  intro ns0 h63
  walk_at "wp"
  intro hb
  refine ⟨ns0, rfl, h63, fun ms => ⟨⟨ms, rfl⟩, (), rfl, fun ns hn l1 l6 => ?_⟩⟩
  repeat refine ⟨by decide, ?_⟩
  refine lc_map fO (by decide) (fun d hd acc J hJ => ?_) ?_
  · simp only [List.mem_cons, List.not_mem_nil, or_false] at hd
    rcases hd with rfl | rfl | rfl | rfl | rfl | rfl | rfl | rfl | rfl | rfl | rfl | rfl <;> walk_at "wp" <;> (repeat refine ⟨by decide, ?_⟩) <;> exact hJ
  refine ⟨by decide, ?_⟩
  rw [areN_dN hn l1]
  refine FL.cond_f rfl ?_
  repeat refine ⟨by decide, ?_⟩
  refine FL.cond_f (by decide) ?_
  refine lc_fm (fun _ => none) (by show 22 ≤ sizeLine; decide) (fun d hd acc J h1 h2 => ?_) ?_
  · have e : areNights d = false := by
      simp only [List.map_cons, List.map_nil, List.mem_cons, List.not_mem_nil, or_false] at hd
      rcases hd with rfl | rfl | rfl | rfl | rfl | rfl | rfl | rfl | rfl | rfl | rfl | rfl | rfl | rfl | rfl | rfl | rfl | rfl | rfl | rfl | rfl | rfl <;> first | rfl | decide
    walk_at "wp"
    rw [e]
    exact h1 rfl
  rw [show ∀ l : List D, l.filterMap (fun _ => (none : Option D)) = [] from fun l => by simp]
  refine ⟨by decide, sh_eq sh_nilL sh_nilL, ?_⟩
  rw [ev_lnil]
  refine FL.cond_f rfl ⟨by decide, by decide, rg_len (by rw [List.length_map]; exact Nat.le_trans l6 (by decide)), ?_⟩
  rw [List.length_map, Int.toNat_natCast]
  have big : ∀ {k : Nat}, k ≤ 7 → (subs k).length ≤ 128 := fun {k} hk => by
    rw [subs_len]
    exact Nat.pow_le_pow_right (by decide) hk
  refine ⟨fun i s' => ∃ x3 x5 x13 x14 x15 x16 x17 x18 x19 x20, s' = [.fz (.list (List.map .int ns0)), .dr, .fz (.tuple (List.map dN ns)), x3, .fz (.list ((subs i).map dRow)), x5, .no, .no, .no, .no, .no, .fz (.int (ns.length : Int)), .fz (.tuple [.int 1, .int 1, .int 1, .int 1]), x13, x14, x15, x16, x17, x18, x19, x20], ⟨_, _, _, _, _, _, _, _, _, _, rfl⟩, ?_, ?_⟩
  · rintro i d s' e ⟨x3, x5, x13, x14, x15, x16, x17, x18, x19, x20, rfl⟩
    obtain ⟨rfl, hi⟩ := rng_get0 e
    have hb := big (k := i) (by omega)
    walk_at "wp"
    refine lc_map (fun d => match d with | .tuple ds => .tuple (ds ++ [.int (i : Int)]) | _ => d) (by rw [List.length_map]; exact Nat.le_trans hb (by decide)) (fun d hd acc J hJ => ?_) ?_
    · obtain ⟨r', hr, rfl⟩ := List.mem_map.mp hd
      unfold dRow at hJ ⊢
      walk_at "wp"
      have := (subs_in hr).1
      exact ⟨by decide, by rw [List.length_map]; exact Nat.le_trans (show r'.length + 1 ≤ 8 by omega) (by decide), hJ⟩
    · have e2 : List.map dRow (subs i) ++ List.map (fun d => match d with | .tuple ds => .tuple (ds ++ [.int (i : Int)]) | _ => d) (List.map dRow (subs i)) = List.map dRow (subs (i + 1)) := by
        rw [subs, List.map_append, List.map_map, List.map_map]
        congr 1
        apply List.map_congr_left
        intro r' _
        simp [dRow, dI']
      refine ⟨?_, _, _, _, _, _, _, _, _, _, _, by rw [e2]⟩
      rw [List.length_map, List.length_map, List.length_map]
      exact Nat.le_trans (show (subs i).length + (subs i).length ≤ 256 by omega) (by decide)
  · rintro s' ⟨x3, x5, x13, x14, x15, x16, x17, x18, x19, x20, rfl⟩
    rw [rng_len]
    have hbn := big (k := ns.length) (by omega)
    have gsub : ∀ r ∈ (subs ns.length).filter (turnB ns), r ∈ subs ns.length ∧ turnB ns r = true := fun r hr => List.mem_filter.mp hr
    have glen : ((subs ns.length).filter (turnB ns)).length ≤ 128 := Nat.le_trans (List.length_filter_le _ _) hbn
    have e3 : List.filterMap (fun d => if areT ns d = true then some d else none) (List.map dRow (subs ns.length)) = ((subs ns.length).filter (turnB ns)).map dRow := by
      rw [List.filterMap_map]
      have : ∀ (l : List (List Nat)), (∀ r ∈ l, ∀ i ∈ r, i < ns.length) → List.filterMap ((fun d => if areT ns d = true then some d else none) ∘ dRow) l = (l.filter (turnB ns)).map dRow := by
        intro l
        induction l with
        | nil => intro _; rfl
        | cons r l ih =>
          intro hl
          have a := areT_row (ns := ns) (hl r List.mem_cons_self)
          rw [List.filterMap_cons, List.filter_cons, ih fun r' hr' => hl r' (List.mem_cons_of_mem _ hr')]
          have c : ((fun d => if areT ns d = true then some d else none) ∘ dRow) r = if turnB ns r = true then some (dRow r) else none := by
            show (if areT ns (dRow r) = true then some (dRow r) else none) = _
            rw [a]
          rw [c]
          cases turnB ns r with
          | true => rw [if_pos rfl, if_pos rfl, List.map_cons]
          | false => rw [if_neg Bool.false_ne_true, if_neg Bool.false_ne_true]
      exact this _ fun r hr => (subs_in hr).2
    dsimp only
    refine seq_mid [.fz (.list (List.map .int ns0)), .dr, .fz (.tuple (List.map dN ns)), x3, .fz (.list ((subs ns.length).map dRow)), x5, .fz (.list (((subs ns.length).filter (turnB ns)).map dRow)), .no, .no, .no, .no, .fz (.int (ns.length : Int)), .fz (.tuple [.int 1, .int 1, .int 1, .int 1]), x13, x14, x15, x16, x17, x18, x19, x20] (fun N hN => ?_) ?_
    · walk_at "wp"
      refine lc_fm (fun d => if areT ns d = true then some d else none) (by rw [List.length_map]; exact Nat.le_trans hbn (by decide)) (fun d hd acc J h1 h2 => ?_) ?_
      · obtain ⟨r, hr, rfl⟩ := List.mem_map.mp hd
        have hlr := subs_in hr
        have a := areT_row (ns := ns) hlr.2
        rw [a] at h1 h2
        walk_at "wp"
        refine ⟨ns, r, rfl, ⟨hn, by omega, hlr.2⟩, trivial, ?_⟩
        rw [turn_eq (subs_incr hr)]
        exact FL.cond_of (fun z => h2 _ (if_pos z)) (fun z => h1 (if_neg (by rw [z]; decide)))
      · rw [e3]
        exact hN
    generalize hg : (subs ns.length).filter (turnB ns) = good at gsub glen
    have shr : ∀ {r : List Nat}, Sh 1 (dRow r) := fun {r} => sh_t fun d hd => by
      obtain ⟨i, _, rfl⟩ := List.mem_map.mp hd
      exact sh_i
    have shG : ∀ {l : List (List Nat)}, Sh 2 (.list (List.map dRow l)) := fun {l} => sh_l fun d hd => by
      obtain ⟨i, _, rfl⟩ := List.mem_map.mp hd
      exact shr
    refine seq_mid [.fz (.list (List.map .int ns0)), .dr, .fz (.tuple (List.map dN ns)), x3, .fz (.list ((subs ns.length).map dRow)), x5, .fz (.list (good.map dRow)), .fz (bestD good), .no, .no, .no, .fz (.int (ns.length : Int)), .fz (.tuple [.int 1, .int 1, .int 1, .int 1]), x13, x14, x15, x16, x17, x18, x19, x20] (fun N hN => ?_) ?_
    · walk_at "wp"
      refine ⟨by decide, sh_eq shG sh_nilL, ?_⟩
      rw [ev_lnil]
      cases good with
      | nil => exact hN
      | cons r0 rs =>
        refine FL.cond_t rfl ?_
        refine lc_map (fun d => match d with | .tuple ds => .tuple [.int (ds.length : Int), .tuple ds] | _ => d) (by rw [List.length_map]; exact Nat.le_trans glen (by decide)) (fun d hd acc J hJ => ?_) ?_
        · obtain ⟨r, hr, rfl⟩ := List.mem_map.mp hd
          unfold dRow at hJ ⊢
          walk_at "wp"
          exact ⟨by decide, hJ⟩
        · have e4 : List.map (fun d => match d with | PyData.tuple ds => PyData.tuple [.int (ds.length : Int), .tuple ds] | _ => d) (List.map dRow (r0 :: rs)) = List.map pairD (r0 :: rs) := by
            rw [List.map_map]
            apply List.map_congr_left
            intro r _
            simp [dRow, pairD]
          rw [e4]
          obtain ⟨b, hb1, hb2⟩ := best_pairs r0 rs
          unfold bestD at hN
          dsimp only at hN
          rw [hb2] at hN
          rw [List.map_cons]
          refine ⟨pairs_ok r0 rs, ?_⟩
          rw [hb2]
          exact ⟨_, rfl, hN⟩
    have hbest : (good = [] ∧ bestD good = .none) ∨ ∃ b ∈ good, bestD good = dRow b := by
      cases good with
      | nil => exact .inl ⟨rfl, rfl⟩
      | cons r0 rs =>
        obtain ⟨b, hb1, hb2⟩ := best_pairs r0 rs
        refine .inr ⟨b, hb1, ?_⟩
        unfold bestD
        dsimp only
        rw [hb2]
        rfl
    have okS0 : ∀ {l : List Nat}, ∀ x ∈ l.map dI', okS 0 x := fun {l} x hx => by
      obtain ⟨i, _, rfl⟩ := List.mem_map.mp hx
      trivial
    refine seq_mid [.fz (.list (List.map .int ns0)), .dr, .fz (.tuple (List.map dN ns)), x3, .fz (.list ((subs ns.length).map dRow)), x5, .fz (.list (good.map dRow)), .fz (bestD good), .no, .no, .no, .fz (.int (ns.length : Int)), .fz (.tuple [.int 1, .int 1, .int 1, .int 1]), x13, x14, x15, x16, x17, x18, x19, x20] (fun N hN => ?_) ?_
    · walk_at "wp"
      refine ⟨ns, rfl, ⟨hn, l1⟩, bestD good, by rw [hg], ?_, trivial, ?_⟩
      · rcases hbest with ⟨_, e⟩ | ⟨b, hb1, e⟩
        · rw [e]; trivial
        · rw [e]
          have := (subs_in (gsub b hb1).1).1
          exact ⟨by rw [List.length_map]; exact Nat.le_trans (show b.length ≤ 8 by omega) (by decide), okS0⟩
      · rcases hbest with ⟨_, e⟩ | ⟨b, hb1, e⟩
        · rw [e] at hN ⊢
          exact hN
        · rw [e] at hN ⊢
          unfold dRow at hN ⊢
          dsimp only
          have h2 := turn_two (gsub b hb1).2
          refine FL.cond_t rfl (FL.cond_f ?_ hN)
          rw [List.length_map]
          exact decide_eq_false (by omega)
    generalize bestD good = best
    obtain ⟨tl, etl, htl⟩ := subs_cons ns.length
    walk_at "wp"
    refine ⟨⟨by decide, by decide⟩, fun i s' => ∃ x8 x13 x14 x15 x16 x17 x18 x19 x20, s' = [.fz (.list (List.map .int ns0)), .dr, .fz (.tuple (List.map dN ns)), x3, .fz (.list ((subs ns.length).map dRow)), x5, .fz (.list (good.map dRow)), .fz best, x8, .no, .no, .fz (.int (ns.length : Int)), .fz (.tuple [.int 1, .int 1, .int 1, .int 1]), x13, x14, x15, x16, x17, x18, x19, x20], ⟨_, _, _, _, _, _, _, _, _, rfl⟩, ?_, ?_⟩
    · rintro i d s' e ⟨x8, x13, x14, x15, x16, x17, x18, x19, x20, rfl⟩
      obtain ⟨rfl, hi⟩ := rng_get0 e
      dsimp only [u_gname, List.set_cons_zero, List.set_cons_succ]
      have l2 : 2 ≤ (subs ns.length).length := by
        rw [subs_len]
        exact Nat.pow_le_pow_right (show 0 < 2 by decide) l1
      have htn : tl.length + 1 = (subs ns.length).length := by rw [etl]; rfl
      refine seq_midP (fun s2 => ∃ r x13 x14 x15 x16 x17 x18 x19 x20, (r ∈ subs ns.length ∧ r ≠ []) ∧ x13 = .fz (dRow r) ∧ s2 = [.fz (.list (List.map .int ns0)), .dr, .fz (.tuple (List.map dN ns)), x3, .fz (.list ((subs ns.length).map dRow)), x5, .fz (.list (good.map dRow)), .fz best, .fz (.int (i : Int)), .no, .no, .fz (.int (ns.length : Int)), .fz (.tuple [.int 1, .int 1, .int 1, .int 1]), x13, x14, x15, x16, x17, x18, x19, x20]) (fun N hN => ?_) ?_
      · walk_at "wp"
        rw [List.length_map]
        refine ⟨by omega, fun v v0 v1 => ?_⟩
        obtain ⟨k, rfl⟩ := Int.eq_ofNat_of_zero_le v0
        have hk : k < tl.length := by omega
        refine ix_int (by omega) (d := dRow tl[k]) ?_ (hN _ ⟨tl[k], _, _, _, _, _, _, _, _, ⟨by rw [etl]; exact List.mem_cons_of_mem _ (List.getElem_mem hk), htl _ (List.getElem_mem hk)⟩, rfl, rfl⟩)
        rw [show (1 + (k : Int)).toNat = k + 1 by omega, etl, List.map_cons, List.getElem?_cons_succ, List.getElem?_map, List.getElem?_eq_getElem hk]
        rfl
      rintro s2 ⟨r, x13, x14, x15, x16, x17, x18, x19, x20, ⟨hr, hr0⟩, rfl, rfl⟩
      refine seq_midP (fun s2 => ∃ r x13 x14 x15 x16 x17 x18 x19 x20, (r ∈ subs ns.length ∧ r ≠ []) ∧ x13 = .fz (dRow r) ∧ s2 = [.fz (.list (List.map .int ns0)), .dr, .fz (.tuple (List.map dN ns)), x3, .fz (.list ((subs ns.length).map dRow)), x5, .fz (.list (good.map dRow)), .fz best, .fz (.int (i : Int)), .no, .no, .fz (.int (ns.length : Int)), .fz (.tuple [.int 1, .int 1, .int 1, .int 1]), x13, x14, x15, x16, x17, x18, x19, x20]) (fun N hN => ?_) ?_
      · walk_at "wp"
        refine FL.cond_of (fun _ => ⟨by decide, sh_eq shG sh_nilL, ?_⟩) (fun _ => hN _ ⟨r, _, _, _, _, _, _, _, _, ⟨hr, hr0⟩, rfl, rfl⟩)
        rw [ev_lnil, cond_not]
        refine FL.cond_of (fun _ => hN _ ⟨r, _, _, _, _, _, _, _, _, ⟨hr, hr0⟩, rfl, rfl⟩) (fun z => ?_)
        have z := of_decide_eq_false z
        have lg : 0 < good.length := List.length_pos_iff.mpr fun y => z (by rw [y]; rfl)
        rw [List.length_map]
        refine ⟨by omega, fun v v0 v1 => ?_⟩
        obtain ⟨k, rfl⟩ := Int.eq_ofNat_of_zero_le v0
        have hk : k < good.length := by omega
        have hg1 := gsub _ (List.getElem_mem hk)
        have hg2 := turn_two hg1.2
        refine ix_nat (d := dRow good[k]) ?_ (hN _ ⟨good[k], _, _, _, _, _, _, _, _, ⟨hg1.1, fun y => by rw [y] at hg2; cases hg2⟩, rfl, rfl⟩)
        rw [List.getElem?_map, List.getElem?_eq_getElem hk]
        rfl
      rintro s2 ⟨r, x13, x14, x15, x16, x17, x18, x19, x20, ⟨hr, hr0⟩, rfl, rfl⟩
      have hlr := subs_in hr
      have okr : okI ns r := ⟨hr0, by omega, hlr.2⟩
      have hin : inD (dRow r) (List.map dRow good) = areT ns (dRow r) := by
        rw [areT_row hlr.2]
        unfold inD
        rw [List.any_map, Bool.eq_iff_iff, List.any_eq_true]
        have hev : ∀ x y : Nat, PyData.eqv (dI' x) (dI' y) = decide (x = y) := fun x y => by
          unfold dI'
          rw [ev_ii]
          exact decide_eq_decide.mpr (by omega)
        constructor
        · rintro ⟨r', hr', z⟩
          have z : PyData.eqv (dRow r') (dRow r) = true := z
          unfold dRow at z
          rw [ev_tmap hev] at z
          have z := of_decide_eq_true z
          subst z
          exact (gsub _ hr').2
        · intro z
          refine ⟨r, by rw [← hg]; exact List.mem_filter.mpr ⟨hr, z⟩, ?_⟩
          show PyData.eqv (dRow r) (dRow r) = true
          unfold dRow
          rw [ev_tmap hev]
          exact decide_eq_true rfl
      refine seq_mid [.fz (.list (List.map .int ns0)), .dr, .fz (.tuple (List.map dN ns)), x3, .fz (.list ((subs ns.length).map dRow)), x5, .fz (.list (good.map dRow)), .fz best, .fz (.int (i : Int)), .no, .no, .fz (.int (ns.length : Int)), .fz (.tuple [.int 1, .int 1, .int 1, .int 1]), .fz (dRow r), x14, x15, x16, x17, x18, x19, x20] (fun N hN => ?_) ?_
      · walk_at "wp"
        refine ⟨ns, dRow r, rfl, ⟨hn, l1, fun es he => ?_⟩, ⟨sh_ok shr, sh_ok shG⟩, .bool (areT ns (dRow r)), by rw [hin], trivial, trivial, hN⟩
        cases he
        rw [List.length_map]
        omega
      walk_at "wp"
      refine ⟨⟨by decide, by decide⟩, fun j s' => ∃ x14 x15 x16 x17 x18 x19 x20, s' = [.fz (.list (List.map .int ns0)), .dr, .fz (.tuple (List.map dN ns)), x3, .fz (.list ((subs ns.length).map dRow)), x5, .fz (.list (good.map dRow)), .fz best, .fz (.int (i : Int)), .no, .no, .fz (.int (ns.length : Int)), .fz (.tuple [.int 1, .int 1, .int 1, .int 1]), .fz (dRow r), x14, x15, x16, x17, x18, x19, x20], ⟨_, _, _, _, _, _, _, rfl⟩, ?_, ?_⟩
      · rintro j d s' e ⟨x14, x15, x16, x17, x18, x19, x20, rfl⟩
        obtain ⟨rfl, hj⟩ := rng_get0 e
        dsimp only [u_gname, List.set_cons_zero, List.set_cons_succ]
        have hj2 : j < 2 := hj
        have hw : (j : Int) = 0 ∨ (j : Int) = 1 := by omega
        have bH := sumH_bd (w := j) hn okr
        have bS := sumS_bd (w := j) hn okr
        refine seq_mid [.fz (.list (List.map .int ns0)), .dr, .fz (.tuple (List.map dN ns)), x3, .fz (.list ((subs ns.length).map dRow)), x5, .fz (.list (good.map dRow)), .fz best, .fz (.int (i : Int)), .no, .no, .fz (.int (ns.length : Int)), .fz (.tuple [.int 1, .int 1, .int 1, .int 1]), .fz (dRow r), .fz (.int (j : Int)), x15, .fz (.int (sumS ns j r)), .fz (.int (sumH ns j r)), x18, x19, x20] (fun N hN => ?_) ?_
        · walk_at "wp"
          refine ⟨ns, j, r, rfl, ⟨hw, hn, okr⟩, ?_⟩
          walk_at "wp"
          exact ⟨by decide, rfl, hN⟩
        refine seq_mid [.fz (.list (List.map .int ns0)), .dr, .fz (.tuple (List.map dN ns)), x3, .fz (.list ((subs ns.length).map dRow)), x5, .fz (.list (good.map dRow)), .fz best, .fz (.int (i : Int)), .no, .no, .fz (.int (ns.length : Int)), .fz (.tuple [.int 1, .int 1, .int 1, .int 1]), .fz (dRow r), .fz (.int (j : Int)), x15, .fz (.int (sumS ns j r)), .fz (.int (sumH ns j r)), x18, x19, x20] (fun N hN => ?_) ?_
        · walk_at "wp"
          refine ⟨ns, j, r, rfl, hw, hn, okr, ⟨bS.1, by omega, by omega⟩, _, rfl, ?_, trivial, hN⟩
          exact ⟨by show 2 ≤ sizeLine; decide, fun x hx => by
            rcases List.mem_cons.mp hx with rfl | hx
            · trivial
            · obtain rfl := List.mem_singleton.mp hx
              trivial⟩
        have srm : (List.map dI' r).length ≤ sizeLine := by
          rw [List.length_map]
          exact Nat.le_trans (show r.length ≤ 8 by omega) (by decide)
        refine seq_mid [.fz (.list (List.map .int ns0)), .dr, .fz (.tuple (List.map dN ns)), x3, .fz (.list ((subs ns.length).map dRow)), x5, .fz (.list (good.map dRow)), .fz best, .fz (.int (i : Int)), .no, .no, .fz (.int (ns.length : Int)), .fz (.tuple [.int 1, .int 1, .int 1, .int 1]), .fz (dRow r), .fz (.int (j : Int)), .fz (.list (r.map (oneD ns j))), .fz (.int (sumS ns j r)), .fz (.int (sumH ns j r)), x18, x19, x20] (fun N hN => ?_) ?_
        · unfold dRow at hN ⊢
          walk_at "wp"
          refine lc_map (fun d => match d with | .int k => oneD ns j k.toNat | _ => d) srm (fun d hd acc J hJ => ?_) ?_
          · obtain ⟨k, hk, rfl⟩ := List.mem_map.mp hd
            have o1 : okI ns [k] := ⟨by simp, by simp, by simpa using hlr.2 k hk⟩
            unfold dI' at hJ ⊢
            walk_at "wp"
            exact ⟨by decide, ns, j, [k], rfl, ⟨hw, hn, o1⟩, hJ⟩
          · rw [List.map_map]
            exact hN
        have okone : ∀ k ∈ r, okI ns [k] := fun k hk => ⟨by simp, by simp, by simpa using hlr.2 k hk⟩
        have shO : ∀ {p : D → Bool}, Sh 2 (.list ((r.map (oneD ns j)).filter p)) := fun {p} => sh_l fun d hd => by
          obtain ⟨k, _, rfl⟩ := List.mem_map.mp (List.mem_filter.mp hd).1
          exact sh_t fun e he => by
            rcases List.mem_cons.mp he with rfl | he
            · exact sh_i
            · obtain rfl := List.mem_singleton.mp he
              exact sh_i
        have som : (r.map (oneD ns j)).length ≤ sizeLine := by
          rw [List.length_map]
          exact Nat.le_trans (show r.length ≤ 8 by omega) (by decide)
        walk_at "wp"
        refine lc_filter (fun d => match d with | .tuple [.int a, .int b] => !decide (a * sumH ns j r < sumS ns j r * b) | _ => false) som (fun d hd acc J h1 h2 => ?_) ?_
        · obtain ⟨k, hk, rfl⟩ := List.mem_map.mp hd
          have c1 := sumH_bd (w := j) hn (okone k hk)
          have c2 := sumS_bd (w := j) hn (okone k hk)
          unfold oneD at h1 h2 ⊢
          walk_at "wp"
          refine ⟨by decide, ⟨mul_r (by omega) (by omega), mul_r (by omega) (by omega)⟩, trivial, ?_⟩
          exact FL.cond_of (fun z => h2 z) (fun z => h1 z)
        refine ⟨by decide, sh_eq shO sh_nilL, ?_⟩
        rw [ev_lnil]
        refine FL.cond_f (decide_eq_false (ones_ne fun hall => med_lo (ns := ns) (w := j) hr0 fun k hk => ?_)) ?_
        · have : (!decide (sumS ns j [k] * sumH ns j r < sumS ns j r * sumH ns j [k])) = false := hall k hk
          exact of_decide_eq_true (by simpa using this)
        refine lc_filter (fun d => match d with | .tuple [.int a, .int b] => !decide (sumS ns j r * b < a * sumH ns j r) | _ => false) som (fun d hd acc J h1 h2 => ?_) ?_
        · obtain ⟨k, hk, rfl⟩ := List.mem_map.mp hd
          have c1 := sumH_bd (w := j) hn (okone k hk)
          have c2 := sumS_bd (w := j) hn (okone k hk)
          unfold oneD at h1 h2 ⊢
          walk_at "wp"
          refine ⟨by decide, ⟨mul_r (by omega) (by omega), mul_r (by omega) (by omega)⟩, trivial, ?_⟩
          exact FL.cond_of (fun z => h2 z) (fun z => h1 z)
        refine ⟨by decide, sh_eq shO sh_nilL, ?_⟩
        rw [ev_lnil]
        refine FL.cond_f (decide_eq_false (ones_ne fun hall => med_hi (ns := ns) (w := j) hr0 fun k hk => ?_)) ⟨_, _, _, _, _, _, _, rfl⟩
        have : (!decide (sumS ns j r * sumH ns j [k] < sumS ns j [k] * sumH ns j r)) = false := hall k hk
        exact of_decide_eq_true (by simpa using this)
      · rintro s' ⟨x14, x15, x16, x17, x18, x19, x20, rfl⟩
        exact ⟨_, _, _, _, _, _, _, _, _, rfl⟩
    · rintro s' ⟨x8, x13, x14, x15, x16, x17, x18, x19, x20, rfl⟩
      dsimp only
      refine seq_midP (fun s2 => ∃ t : Int, (1 ≤ t ∧ t ≤ 3) ∧ s2 = [.fz (.list (List.map .int ns0)), .dr, .fz (.tuple (List.map dN ns)), x3, .fz (.list ((subs ns.length).map dRow)), x5, .fz (.list (good.map dRow)), .fz best, x8, .fz (.int t), .no, .fz (.int (ns.length : Int)), .fz (.tuple [.int 1, .int 1, .int 1, .int 1]), x13, x14, x15, x16, x17, x18, x19, x20]) (fun N hN => ?_) ?_
      · walk_at "wp"
        exact ⟨by decide, fun v v0 v1 => hN _ ⟨_, ⟨by omega, by omega⟩, rfl⟩⟩
      rintro s2 ⟨t, ⟨t1, t3⟩, rfl⟩
      have evo := even_ok hn t1 t3
      refine seq_mid [.fz (.list (List.map .int ns0)), .dr, .fz (.tuple (List.map dN ns)), x3, .fz (.list ((subs ns.length).map dRow)), x5, .fz (.list (good.map dRow)), .fz best, x8, .fz (.int t), .fz (.tuple (List.map dN (ns.map (evN t)))), .fz (.int (ns.length : Int)), .fz (.tuple [.int 1, .int 1, .int 1, .int 1]), x13, x14, x15, x16, x17, x18, x19, x20] (fun N hN => ?_) ?_
      · walk_at "wp"
        refine lc_map (fE t) (by rw [List.length_map]; exact Nat.le_trans l6 (by decide)) (fun d hd acc J hJ => ?_) ?_
        · obtain ⟨n, hm, rfl⟩ := List.mem_map.mp hd
          have := hn.2 n hm
          unfold okN at this
          unfold dN at hJ ⊢
          walk_at "wp"
          exact ⟨_, rfl, _, rfl, mul_r (by omega) (by omega), _, rfl, _, rfl, by decide, hJ⟩
        · have : List.map (fE t) (List.map dN ns) = List.map dN (ns.map (evN t)) := by
            rw [List.map_map, List.map_map]
            rfl
          rw [this]
          exact hN
      have hnone : bestD ((subs (ns.map (evN t)).length).filter (turnB (ns.map (evN t)))) = .none := by
        rw [List.filter_eq_nil_iff.mpr fun r hr => by
          rw [even_no hn t1 t3 fun k hk => by
            have := (subs_in hr).2 k hk
            rwa [List.length_map] at this]
          exact Bool.false_ne_true]
        rfl
      refine seq_mid [.fz (.list (List.map .int ns0)), .dr, .fz (.tuple (List.map dN ns)), x3, .fz (.list ((subs ns.length).map dRow)), x5, .fz (.list (good.map dRow)), .fz best, x8, .fz (.int t), .fz (.tuple (List.map dN (ns.map (evN t)))), .fz (.int (ns.length : Int)), .fz (.tuple [.int 1, .int 1, .int 1, .int 1]), x13, x14, x15, x16, x17, x18, x19, x20] (fun N hN => ?_) ?_
      · walk_at "wp"
        refine ⟨_, rfl, ⟨evo, by rw [List.length_map]; exact l1⟩, ?_⟩
        rw [hnone]
        exact hN
      walk_at "wp"
      obtain ⟨m, hm, hmv⟩ : ∃ m : Int, (if decide (1 < (ns.length : Int)) = true then (1 : Int) else 0) = m ∧ (m = 0 ∨ m = 1 ∧ 1 < ns.length) := by
        refine ⟨_, rfl, ?_⟩
        split
        · rename_i z
          have := of_decide_eq_true z
          exact .inr ⟨rfl, by omega⟩
        · exact .inl rfl
      rw [hm]
      have fin : EqOk (.list []) (.list []) ∧ PyData.bool ((PyData.list []).eqv (PyData.list [])) = PyData.bool true := ⟨sh_eq sh_nilL sh_nilL, by rw [ev_lnil]; rfl⟩
      have nof : ∀ l : List D, l.filterMap (fun _ => (none : Option D)) = [] := fun l => by simp
      have p0 : ∀ d ∈ ([.none, .list [.int 0], .tuple [], .tuple [.int (ns.length : Int)], .tuple [.int (-1)], .tuple [.none], .tuple [.str (Str.ofString "0")], .tuple [.int 0, .int 0], .str (Str.ofString "nights"), .int 0] : List D), areT ns d = false ∧ ∀ es, d = .tuple es → es.length ≤ 100 := by
        intro d hd
        simp only [List.mem_cons, List.not_mem_nil, or_false] at hd
        rcases hd with rfl | rfl | rfl | rfl | rfl | rfl | rfl | rfl | rfl | rfl <;> refine ⟨?_, fun es he => by cases he <;> first | decide | (show 1 ≤ 100; decide)⟩
        · rfl
        · rfl
        · exact areT_noinc0
        · exact areT_out (by omega)
        · exact areT_out (by omega)
        · rfl
        · rfl
        · exact areT_noinc (is := [0, 0]) (by simp; omega) (by decide)
        · rfl
        · rfl
      rcases hmv with rfl | ⟨rfl, h2⟩
      · repeat refine ⟨by decide, ?_⟩
        refine lc_fm (fun _ => none) (by show 10 ≤ sizeLine; decide) (fun d hd acc J h1 h2 => ?_) ?_
        · obtain ⟨e1, e2⟩ := p0 d hd
          walk_at "wp"
          refine ⟨ns, d, rfl, ⟨hn, l1, e2⟩, ?_⟩
          rw [e1]
          exact h1 rfl
        · rw [nof]
          exact ⟨by decide, fin⟩
      · repeat refine ⟨by decide, ?_⟩
        refine lc_fm (fun _ => none) (by show 11 ≤ sizeLine; decide) (fun d hd acc J h1 h2' => ?_) ?_
        · have hd2 : d ∈ ([.none, .list [.int 0], .tuple [], .tuple [.int (ns.length : Int)], .tuple [.int (-1)], .tuple [.none], .tuple [.str (Str.ofString "0")], .tuple [.int 0, .int 0], .str (Str.ofString "nights"), .int 0] ++ [.tuple [.int 1, .int 0]] : List D) := hd
          obtain ⟨e1, e2⟩ : areT ns d = false ∧ ∀ es, d = .tuple es → es.length ≤ 100 := by
            rcases List.mem_append.mp hd2 with hd2 | hd2
            · exact p0 d hd2
            · obtain rfl := List.mem_singleton.mp hd2
              exact ⟨areT_noinc (is := [1, 0]) (by simp; omega) (by decide), fun es he => by cases he; decide⟩
          walk_at "wp"
          refine ⟨ns, d, rfl, ⟨hn, l1, e2⟩, ?_⟩
          rw [e1]
          exact h1 rfl
        · rw [nof]
          exact ⟨by decide, fin⟩

end
theorem txt_mk {K : PySem.W.Frag} {h : Heap} {mg : Str → Option Value} (X : K.In h) (G : h.Ns mainGlobals mg)
    {od0 an0 od1 an1 od2 an2 od3 an3 od4 an4 od5 an5 od6 an6 od7 an7 od8 an8 od9 an9 od10 an10 od11 an11 od12 an12 od13 an13 od14 an14 od15 an15 od16 an16 od17 an17 : Option Addr} {sl0 sl1 sl2 sl3 sl4 sl5 sl6 sl7 sl8 sl9 sl10 sl11 sl12 sl13 sl14 sl15 sl16 sl17 : Array (Option Value)} {oc0 kV0 dc0 pm0 ct0 cd0 oc1 kV1 dc1 pm1 ct1 cd1 oc2 kV2 dc2 pm2 ct2 cd2 oc3 kV3 dc3 pm3 ct3 oc4 kV4 dc4 pm4 ct4 oc5 kV5 dc5 pm5 ct5 cd5 oc6 kV6 dc6 pm6 ct6 cd6 oc7 kV7 dc7 pm7 ct7 oc8 kV8 dc8 pm8 ct8 cd8 oc9 kV9 dc9 pm9 ct9 cd9 oc10 kV10 dc10 pm10 ct10 cd10 oc11 kV11 dc11 pm11 ct11 cd11 oc12 kV12 dc12 pm12 ct12 cd12 oc13 kV13 dc13 pm13 ct13 cd13 oc14 kV14 dc14 pm14 ct14 cd14 oc15 kV15 dc15 pm15 ct15 cd15 oc16 kV16 dc16 pm16 ct16 cd16 oc17 kV17 dc17 pm17 ct17 cd17 : Value}
    {f0 f1 f2 f3 f4 f5 f6 f7 f8 f9 f10 f11 f12 f13 f14 f15 f16 f17 : Addr} {gc3 gp3 gc4 gp4 gc7 gp7 : Addr} {gd3 gd4 gd7 : Option Addr} {go3 go4 go7 : Value} {gv3 gv4 gv7 : Array Value} {gs3 gs4 gs7 : Array (Option Value)}
    {tk1 tk2 tk3 : Tok}
    (a0 : PySem.W.nsIn K mainGlobals "is_number" = some (some (.ref f0))) (l0 : K.lookup f0 = some ⟨oc0, od0, .func (PySem.W.fnOf "is_number" "is_number" (defArgs s_is_number) (defBody s_is_number) (defScope s_is_number) .none kV0 dc0 pm0 an0 cd0 ct0), sl0⟩) (c0 : PySem.W.codeIn K cd0 "is_number" = true) (k0 : PySem.W.keepIn K (.ref f0) = true)
    (a1 : PySem.W.nsIn K mainGlobals "lowest" = some (some (.ref f1))) (l1 : K.lookup f1 = some ⟨oc1, od1, .func (PySem.W.fnOf "lowest" "lowest" (defArgs s_lowest) (defBody s_lowest) (defScope s_lowest) .none kV1 dc1 pm1 an1 cd1 ct1), sl1⟩) (c1 : PySem.W.codeIn K cd1 "lowest" = true) (k1 : PySem.W.keepIn K (.ref f1) = true)
    (a2 : PySem.W.nsIn K mainGlobals "less" = some (some (.ref f2))) (l2 : K.lookup f2 = some ⟨oc2, od2, .func (PySem.W.fnOf "less" "less" (defArgs s_less) (defBody s_less) (defScope s_less) .none kV2 dc2 pm2 an2 cd2 ct2), sl2⟩) (c2 : PySem.W.codeIn K cd2 "less" = true) (k2 : PySem.W.keepIn K (.ref f2) = true)
    (a3 : PySem.W.nsIn K mainGlobals "is_night" = some (some (.ref f3))) (l3 : K.lookup f3 = some ⟨oc3, od3, .func (PySem.W.fnOf "is_night" "is_night" (defArgs s_is_night) (defBody s_is_night) (defScope s_is_night) .none kV3 dc3 pm3 an3 (.ref gc3) ct3), sl3⟩) (c3 : PySem.W.codeIn K (.ref gc3) "is_night" = true) (k3 : PySem.W.keepIn K (.ref f3) = true)
    (a4 : PySem.W.nsIn K mainGlobals "are_nights" = some (some (.ref f4))) (l4 : K.lookup f4 = some ⟨oc4, od4, .func (PySem.W.fnOf "are_nights" "are_nights" (defArgs s_are_nights) (defBody s_are_nights) (defScope s_are_nights) .none kV4 dc4 pm4 an4 (.ref gc4) ct4), sl4⟩) (c4 : PySem.W.codeIn K (.ref gc4) "are_nights" = true) (k4 : PySem.W.keepIn K (.ref f4) = true)
    (a5 : PySem.W.nsIn K mainGlobals "rate_over" = some (some (.ref f5))) (l5 : K.lookup f5 = some ⟨oc5, od5, .func (PySem.W.fnOf "rate_over" "rate_over" (defArgs s_rate_over) (defBody s_rate_over) (defScope s_rate_over) .none kV5 dc5 pm5 an5 cd5 ct5), sl5⟩) (c5 : PySem.W.codeIn K cd5 "rate_over" = true) (k5 : PySem.W.keepIn K (.ref f5) = true)
    (a6 : PySem.W.nsIn K mainGlobals "is_greater" = some (some (.ref f6))) (l6 : K.lookup f6 = some ⟨oc6, od6, .func (PySem.W.fnOf "is_greater" "is_greater" (defArgs s_is_greater) (defBody s_is_greater) (defScope s_is_greater) .none kV6 dc6 pm6 an6 cd6 ct6), sl6⟩) (c6 : PySem.W.codeIn K cd6 "is_greater" = true) (k6 : PySem.W.keepIn K (.ref f6) = true)
    (a7 : PySem.W.nsIn K mainGlobals "are_turned" = some (some (.ref f7))) (l7 : K.lookup f7 = some ⟨oc7, od7, .func (PySem.W.fnOf "are_turned" "are_turned" (defArgs s_are_turned) (defBody s_are_turned) (defScope s_are_turned) .none kV7 dc7 pm7 an7 (.ref gc7) ct7), sl7⟩) (c7 : PySem.W.codeIn K (.ref gc7) "are_turned" = true) (k7 : PySem.W.keepIn K (.ref f7) = true)
    (a8 : PySem.W.nsIn K mainGlobals "told_turned" = some (some (.ref f8))) (l8 : K.lookup f8 = some ⟨oc8, od8, .func (PySem.W.fnOf "told_turned" "told_turned" (defArgs s_told_turned) (defBody s_told_turned) (defScope s_told_turned) .none kV8 dc8 pm8 an8 cd8 ct8), sl8⟩) (c8 : PySem.W.codeIn K cd8 "told_turned" = true) (k8 : PySem.W.keepIn K (.ref f8) = true)
    (a9 : PySem.W.nsIn K mainGlobals "_law_draws" = some (some (.ref f9))) (l9 : K.lookup f9 = some ⟨oc9, od9, .func (PySem.W.fnOf "_law_draws" "_law_draws" (defArgs s__law_draws) (defBody s__law_draws) (defScope s__law_draws) .none kV9 dc9 pm9 an9 cd9 ct9), sl9⟩) (c9 : PySem.W.codeIn K cd9 "_law_draws" = true) (k9 : PySem.W.keepIn K (.ref f9) = true)
    (a10 : PySem.W.nsIn K mainGlobals "_law_take" = some (some (.ref f10))) (l10 : K.lookup f10 = some ⟨oc10, od10, .func (PySem.W.fnOf "_law_take" "_law_take" (defArgs s__law_take) (defBody s__law_take) (defScope s__law_take) .none kV10 dc10 pm10 an10 cd10 ct10), sl10⟩) (c10 : PySem.W.codeIn K cd10 "_law_take" = true) (k10 : PySem.W.keepIn K (.ref f10) = true)
    (a11 : PySem.W.nsIn K mainGlobals "_law_alike" = some (some (.ref f11))) (l11 : K.lookup f11 = some ⟨oc11, od11, .func (PySem.W.fnOf "_law_alike" "_law_alike" (defArgs s__law_alike) (defBody s__law_alike) (defScope s__law_alike) .none kV11 dc11 pm11 an11 cd11 ct11), sl11⟩) (c11 : PySem.W.codeIn K cd11 "_law_alike" = true) (k11 : PySem.W.keepIn K (.ref f11) = true)
    (a12 : PySem.W.nsIn K mainGlobals "_law_lowest" = some (some (.ref f12))) (l12 : K.lookup f12 = some ⟨oc12, od12, .func (PySem.W.fnOf "_law_lowest" "_law_lowest" (defArgs s__law_lowest) (defBody s__law_lowest) (defScope s__law_lowest) .none kV12 dc12 pm12 an12 cd12 ct12), sl12⟩) (c12 : PySem.W.codeIn K cd12 "_law_lowest" = true) (k12 : PySem.W.keepIn K (.ref f12) = true)
    (a13 : PySem.W.nsIn K mainGlobals "_law_nights" = some (some (.ref f13))) (l13 : K.lookup f13 = some ⟨oc13, od13, .func (PySem.W.fnOf "_law_nights" "_law_nights" (defArgs s__law_nights) (defBody s__law_nights) (defScope s__law_nights) .none kV13 dc13 pm13 an13 cd13 ct13), sl13⟩) (c13 : PySem.W.codeIn K cd13 "_law_nights" = true) (k13 : PySem.W.keepIn K (.ref f13) = true)
    (a14 : PySem.W.nsIn K mainGlobals "_law_sums" = some (some (.ref f14))) (l14 : K.lookup f14 = some ⟨oc14, od14, .func (PySem.W.fnOf "_law_sums" "_law_sums" (defArgs s__law_sums) (defBody s__law_sums) (defScope s__law_sums) .none kV14 dc14 pm14 an14 cd14 ct14), sl14⟩) (c14 : PySem.W.codeIn K cd14 "_law_sums" = true) (k14 : PySem.W.keepIn K (.ref f14) = true)
    (a15 : PySem.W.nsIn K mainGlobals "_law_more" = some (some (.ref f15))) (l15 : K.lookup f15 = some ⟨oc15, od15, .func (PySem.W.fnOf "_law_more" "_law_more" (defArgs s__law_more) (defBody s__law_more) (defScope s__law_more) .none kV15 dc15 pm15 an15 cd15 ct15), sl15⟩) (c15 : PySem.W.codeIn K cd15 "_law_more" = true) (k15 : PySem.W.keepIn K (.ref f15) = true)
    (a16 : PySem.W.nsIn K mainGlobals "_law_turned" = some (some (.ref f16))) (l16 : K.lookup f16 = some ⟨oc16, od16, .func (PySem.W.fnOf "_law_turned" "_law_turned" (defArgs s__law_turned) (defBody s__law_turned) (defScope s__law_turned) .none kV16 dc16 pm16 an16 cd16 ct16), sl16⟩) (c16 : PySem.W.codeIn K cd16 "_law_turned" = true) (k16 : PySem.W.keepIn K (.ref f16) = true)
    (a17 : PySem.W.nsIn K mainGlobals "law" = some (some (.ref f17))) (l17 : K.lookup f17 = some ⟨oc17, od17, .func (PySem.W.fnOf "law" "law" (defArgs s_law) (defBody s_law) (defScope s_law) .none kV17 dc17 pm17 an17 cd17 ct17), sl17⟩) (c17 : PySem.W.codeIn K cd17 "law" = true) (k17 : PySem.W.keepIn K (.ref f17) = true)
    (z0 : PySem.W.nsIn K mainGlobals "abs" = some none)
    (z1 : PySem.W.nsIn K mainGlobals "all" = some none)
    (z2 : PySem.W.nsIn K mainGlobals "bool" = some none)
    (z3 : PySem.W.nsIn K mainGlobals "int" = some none)
    (z4 : PySem.W.nsIn K mainGlobals "isinstance" = some none)
    (z5 : PySem.W.nsIn K mainGlobals "len" = some none)
    (z6 : PySem.W.nsIn K mainGlobals "list" = some none)
    (z7 : PySem.W.nsIn K mainGlobals "max" = some none)
    (z8 : PySem.W.nsIn K mainGlobals "min" = some none)
    (z9 : PySem.W.nsIn K mainGlobals "range" = some none)
    (z10 : PySem.W.nsIn K mainGlobals "reversed" = some none)
    (z11 : PySem.W.nsIn K mainGlobals "str" = some none)
    (z12 : PySem.W.nsIn K mainGlobals "sum" = some none)
    (z13 : PySem.W.nsIn K mainGlobals "tuple" = some none)
    (m0 : PySem.W.nsIn K mainGlobals "gcd" = some (some (.builtin "math.gcd")))
    (g3 : K.lookup gc3 = some ⟨go3, gd3, .fields gv3, gs3⟩) (v3 : gv3[11]? = some (.ref gp3)) (u3 : K.lookup gp3 = none)
    (g4 : K.lookup gc4 = some ⟨go4, gd4, .fields gv4, gs4⟩) (v4 : gv4[11]? = some (.ref gp4)) (u4 : K.lookup gp4 = none)
    (g7 : K.lookup gc7 = some ⟨go7, gd7, .fields gv7, gs7⟩) (v7 : gv7[11]? = some (.ref gp7)) (u7 : K.lookup gp7 = none)
    (cx_MOST_SEEN : PySem.W.nsIn K mainGlobals "MOST_SEEN" = some (some (.int 100 tk1)))
    (cx_MOST_HOURS : PySem.W.nsIn K mainGlobals "MOST_HOURS" = some (some (.int 24 tk2)))
    (cx_MOST_NIGHTS : PySem.W.nsIn K mainGlobals "MOST_NIGHTS" = some (some (.int 7 tk3))) :
    Txt K mg ⟨f0, PySem.W.fnOf "is_number" "is_number" (defArgs s_is_number) (defBody s_is_number) (defScope s_is_number) .none kV0 dc0 pm0 an0 cd0 ct0, f1, PySem.W.fnOf "lowest" "lowest" (defArgs s_lowest) (defBody s_lowest) (defScope s_lowest) .none kV1 dc1 pm1 an1 cd1 ct1, f2, PySem.W.fnOf "less" "less" (defArgs s_less) (defBody s_less) (defScope s_less) .none kV2 dc2 pm2 an2 cd2 ct2, f3, PySem.W.fnOf "is_night" "is_night" (defArgs s_is_night) (defBody s_is_night) (defScope s_is_night) .none kV3 dc3 pm3 an3 (.ref gc3) ct3, f4, PySem.W.fnOf "are_nights" "are_nights" (defArgs s_are_nights) (defBody s_are_nights) (defScope s_are_nights) .none kV4 dc4 pm4 an4 (.ref gc4) ct4, f5, PySem.W.fnOf "rate_over" "rate_over" (defArgs s_rate_over) (defBody s_rate_over) (defScope s_rate_over) .none kV5 dc5 pm5 an5 cd5 ct5, f6, PySem.W.fnOf "is_greater" "is_greater" (defArgs s_is_greater) (defBody s_is_greater) (defScope s_is_greater) .none kV6 dc6 pm6 an6 cd6 ct6, f7, PySem.W.fnOf "are_turned" "are_turned" (defArgs s_are_turned) (defBody s_are_turned) (defScope s_are_turned) .none kV7 dc7 pm7 an7 (.ref gc7) ct7, f8, PySem.W.fnOf "told_turned" "told_turned" (defArgs s_told_turned) (defBody s_told_turned) (defScope s_told_turned) .none kV8 dc8 pm8 an8 cd8 ct8, f9, PySem.W.fnOf "_law_draws" "_law_draws" (defArgs s__law_draws) (defBody s__law_draws) (defScope s__law_draws) .none kV9 dc9 pm9 an9 cd9 ct9, f10, PySem.W.fnOf "_law_take" "_law_take" (defArgs s__law_take) (defBody s__law_take) (defScope s__law_take) .none kV10 dc10 pm10 an10 cd10 ct10, f11, PySem.W.fnOf "_law_alike" "_law_alike" (defArgs s__law_alike) (defBody s__law_alike) (defScope s__law_alike) .none kV11 dc11 pm11 an11 cd11 ct11, f12, PySem.W.fnOf "_law_lowest" "_law_lowest" (defArgs s__law_lowest) (defBody s__law_lowest) (defScope s__law_lowest) .none kV12 dc12 pm12 an12 cd12 ct12, f13, PySem.W.fnOf "_law_nights" "_law_nights" (defArgs s__law_nights) (defBody s__law_nights) (defScope s__law_nights) .none kV13 dc13 pm13 an13 cd13 ct13, f14, PySem.W.fnOf "_law_sums" "_law_sums" (defArgs s__law_sums) (defBody s__law_sums) (defScope s__law_sums) .none kV14 dc14 pm14 an14 cd14 ct14, f15, PySem.W.fnOf "_law_more" "_law_more" (defArgs s__law_more) (defBody s__law_more) (defScope s__law_more) .none kV15 dc15 pm15 an15 cd15 ct15, f16, PySem.W.fnOf "_law_turned" "_law_turned" (defArgs s__law_turned) (defBody s__law_turned) (defScope s__law_turned) .none kV16 dc16 pm16 an16 cd16 ct16, f17, PySem.W.fnOf "law" "law" (defArgs s_law) (defBody s_law) (defScope s_law) .none kV17 dc17 pm17 an17 cd17 ct17, gc3, gp3, gc4, gp4, gc7, gp7⟩ := by
  have F0 := fun_mk (st := s_is_number) l0 c0 k0
  have F1 := fun_mk (st := s_lowest) l1 c1 k1
  have F2 := fun_mk (st := s_less) l2 c2 k2
  have F3 := fun_mk (st := s_is_night) l3 c3 k3
  have F4 := fun_mk (st := s_are_nights) l4 c4 k4
  have F5 := fun_mk (st := s_rate_over) l5 c5 k5
  have F6 := fun_mk (st := s_is_greater) l6 c6 k6
  have F7 := fun_mk (st := s_are_turned) l7 c7 k7
  have F8 := fun_mk (st := s_told_turned) l8 c8 k8
  have F9 := fun_mk (st := s__law_draws) l9 c9 k9
  have F10 := fun_mk (st := s__law_take) l10 c10 k10
  have F11 := fun_mk (st := s__law_alike) l11 c11 k11
  have F12 := fun_mk (st := s__law_lowest) l12 c12 k12
  have F13 := fun_mk (st := s__law_nights) l13 c13 k13
  have F14 := fun_mk (st := s__law_sums) l14 c14 k14
  have F15 := fun_mk (st := s__law_more) l15 c15 k15
  have F16 := fun_mk (st := s__law_turned) l16 c16 k16
  have F17 := fun_mk (st := s_law) l17 c17 k17
  exact {
    f_is_number := F0
    m_is_number := PySem.W.mg_of X G a0
    b_is_number := F0.binds (ps := ["value", "least", "most"]) fun _ _ _ _ _ _ us hl => match us, hl with | [_, _, _], _ => rfl
    f_lowest := F1
    m_lowest := PySem.W.mg_of X G a1
    b_lowest := F1.binds (ps := ["part", "whole"]) fun _ _ _ _ _ _ us hl => match us, hl with | [_, _], _ => rfl
    f_less := F2
    m_less := PySem.W.mg_of X G a2
    b_less := F2.binds (ps := ["one", "other"]) fun _ _ _ _ _ _ us hl => match us, hl with | [_, _], _ => rfl
    f_is_night := F3
    m_is_night := PySem.W.mg_of X G a3
    b_is_night := F3.binds (ps := ["value"]) fun _ _ _ _ _ _ us hl => match us, hl with | [_], _ => rfl
    f_are_nights := F4
    m_are_nights := PySem.W.mg_of X G a4
    b_are_nights := F4.binds (ps := ["value"]) fun _ _ _ _ _ _ us hl => match us, hl with | [_], _ => rfl
    f_rate_over := F5
    m_rate_over := PySem.W.mg_of X G a5
    b_rate_over := F5.binds (ps := ["nights", "watcher", "some"]) fun _ _ _ _ _ _ us hl => match us, hl with | [_, _, _], _ => rfl
    f_is_greater := F6
    m_is_greater := PySem.W.mg_of X G a6
    b_is_greater := F6.binds (ps := ["nights", "some"]) fun _ _ _ _ _ _ us hl => match us, hl with | [_, _], _ => rfl
    f_are_turned := F7
    m_are_turned := PySem.W.mg_of X G a7
    b_are_turned := F7.binds (ps := ["nights", "value"]) fun _ _ _ _ _ _ us hl => match us, hl with | [_, _], _ => rfl
    f_told_turned := F8
    m_told_turned := PySem.W.mg_of X G a8
    b_told_turned := F8.binds (ps := ["nights"]) fun _ _ _ _ _ _ us hl => match us, hl with | [_], _ => rfl
    f__law_draws := F9
    m__law_draws := PySem.W.mg_of X G a9
    b__law_draws := F9.binds (ps := ["script"]) fun _ _ _ _ _ _ us hl => match us, hl with | [_], _ => rfl
    f__law_take := F10
    m__law_take := PySem.W.mg_of X G a10
    b__law_take := F10.binds (ps := ["draws", "bound"]) fun _ _ _ _ _ _ us hl => match us, hl with | [_, _], _ => rfl
    f__law_alike := F11
    m__law_alike := PySem.W.mg_of X G a11
    b__law_alike := F11.binds (ps := ["found", "due"]) fun _ _ _ _ _ _ us hl => match us, hl with | [_, _], _ => rfl
    f__law_lowest := F12
    m__law_lowest := PySem.W.mg_of X G a12
    b__law_lowest := F12.binds (ps := ["part", "whole"]) fun _ _ _ _ _ _ us hl => match us, hl with | [_, _], _ => rfl
    f__law_nights := F13
    m__law_nights := PySem.W.mg_of X G a13
    b__law_nights := F13.binds (ps := ["draws"]) fun _ _ _ _ _ _ us hl => match us, hl with | [_], _ => rfl
    f__law_sums := F14
    m__law_sums := PySem.W.mg_of X G a14
    b__law_sums := F14.binds (ps := ["nights", "watcher", "some"]) fun _ _ _ _ _ _ us hl => match us, hl with | [_, _, _], _ => rfl
    f__law_more := F15
    m__law_more := PySem.W.mg_of X G a15
    b__law_more := F15.binds (ps := ["one", "other"]) fun _ _ _ _ _ _ us hl => match us, hl with | [_, _], _ => rfl
    f__law_turned := F16
    m__law_turned := PySem.W.mg_of X G a16
    b__law_turned := F16.binds (ps := ["nights", "some"]) fun _ _ _ _ _ _ us hl => match us, hl with | [_, _], _ => rfl
    f_law := F17
    m_law := PySem.W.mg_of X G a17
    b_law := F17.binds (ps := ["script"]) fun _ _ _ _ _ _ us hl => match us, hl with | [_], _ => rfl
    n_abs := PySem.W.mg_none_of X G z0
    n_all := PySem.W.mg_none_of X G z1
    n_bool := PySem.W.mg_none_of X G z2
    n_int := PySem.W.mg_none_of X G z3
    n_isinstance := PySem.W.mg_none_of X G z4
    n_len := PySem.W.mg_none_of X G z5
    n_list := PySem.W.mg_none_of X G z6
    n_max := PySem.W.mg_none_of X G z7
    n_min := PySem.W.mg_none_of X G z8
    n_range := PySem.W.mg_none_of X G z9
    n_reversed := PySem.W.mg_none_of X G z10
    n_str := PySem.W.mg_none_of X G z11
    n_sum := PySem.W.mg_none_of X G z12
    n_tuple := PySem.W.mg_none_of X G z13
    k_is_night := rfl
    k_are_nights := rfl
    k_are_turned := rfl
    i_gcd := PySem.W.mg_of X G m0
    g_MOST_SEEN := ⟨(.int 100), (.int 100 tk1), PySem.W.mg_of X G cx_MOST_SEEN, ⟨_, rfl⟩, (.int _)⟩
    g_MOST_HOURS := ⟨(.int 24), (.int 24 tk2), PySem.W.mg_of X G cx_MOST_HOURS, ⟨_, rfl⟩, (.int _)⟩
    g_MOST_NIGHTS := ⟨(.int 7), (.int 7 tk3), PySem.W.mg_of X G cx_MOST_NIGHTS, ⟨_, rfl⟩, (.int _)⟩
  }
theorem law_mk {w : World} {K : PySem.W.Frag} {h : Heap} {mg mb : Str → Option Value} {p : Program} {loose : List Str} {mean : ExcName → Option Value} {fa : Addr} (X : K.In h) (T0 : Top p loose mean mg mb h) (G : h.Ns mainGlobals mg) (hfa : mg "law" = some (.ref fa))
    {od0 an0 od1 an1 od2 an2 od3 an3 od4 an4 od5 an5 od6 an6 od7 an7 od8 an8 od9 an9 od10 an10 od11 an11 od12 an12 od13 an13 od14 an14 od15 an15 od16 an16 od17 an17 : Option Addr} {sl0 sl1 sl2 sl3 sl4 sl5 sl6 sl7 sl8 sl9 sl10 sl11 sl12 sl13 sl14 sl15 sl16 sl17 : Array (Option Value)} {oc0 kV0 dc0 pm0 ct0 cd0 oc1 kV1 dc1 pm1 ct1 cd1 oc2 kV2 dc2 pm2 ct2 cd2 oc3 kV3 dc3 pm3 ct3 oc4 kV4 dc4 pm4 ct4 oc5 kV5 dc5 pm5 ct5 cd5 oc6 kV6 dc6 pm6 ct6 cd6 oc7 kV7 dc7 pm7 ct7 oc8 kV8 dc8 pm8 ct8 cd8 oc9 kV9 dc9 pm9 ct9 cd9 oc10 kV10 dc10 pm10 ct10 cd10 oc11 kV11 dc11 pm11 ct11 cd11 oc12 kV12 dc12 pm12 ct12 cd12 oc13 kV13 dc13 pm13 ct13 cd13 oc14 kV14 dc14 pm14 ct14 cd14 oc15 kV15 dc15 pm15 ct15 cd15 oc16 kV16 dc16 pm16 ct16 cd16 oc17 kV17 dc17 pm17 ct17 cd17 : Value}
    {f0 f1 f2 f3 f4 f5 f6 f7 f8 f9 f10 f11 f12 f13 f14 f15 f16 f17 : Addr} {gc3 gp3 gc4 gp4 gc7 gp7 : Addr} {gd3 gd4 gd7 : Option Addr} {go3 go4 go7 : Value} {gv3 gv4 gv7 : Array Value} {gs3 gs4 gs7 : Array (Option Value)}
    {tk1 tk2 tk3 : Tok}
    (a0 : PySem.W.nsIn K mainGlobals "is_number" = some (some (.ref f0))) (l0 : K.lookup f0 = some ⟨oc0, od0, .func (PySem.W.fnOf "is_number" "is_number" (defArgs s_is_number) (defBody s_is_number) (defScope s_is_number) .none kV0 dc0 pm0 an0 cd0 ct0), sl0⟩) (c0 : PySem.W.codeIn K cd0 "is_number" = true) (k0 : PySem.W.keepIn K (.ref f0) = true)
    (a1 : PySem.W.nsIn K mainGlobals "lowest" = some (some (.ref f1))) (l1 : K.lookup f1 = some ⟨oc1, od1, .func (PySem.W.fnOf "lowest" "lowest" (defArgs s_lowest) (defBody s_lowest) (defScope s_lowest) .none kV1 dc1 pm1 an1 cd1 ct1), sl1⟩) (c1 : PySem.W.codeIn K cd1 "lowest" = true) (k1 : PySem.W.keepIn K (.ref f1) = true)
    (a2 : PySem.W.nsIn K mainGlobals "less" = some (some (.ref f2))) (l2 : K.lookup f2 = some ⟨oc2, od2, .func (PySem.W.fnOf "less" "less" (defArgs s_less) (defBody s_less) (defScope s_less) .none kV2 dc2 pm2 an2 cd2 ct2), sl2⟩) (c2 : PySem.W.codeIn K cd2 "less" = true) (k2 : PySem.W.keepIn K (.ref f2) = true)
    (a3 : PySem.W.nsIn K mainGlobals "is_night" = some (some (.ref f3))) (l3 : K.lookup f3 = some ⟨oc3, od3, .func (PySem.W.fnOf "is_night" "is_night" (defArgs s_is_night) (defBody s_is_night) (defScope s_is_night) .none kV3 dc3 pm3 an3 (.ref gc3) ct3), sl3⟩) (c3 : PySem.W.codeIn K (.ref gc3) "is_night" = true) (k3 : PySem.W.keepIn K (.ref f3) = true)
    (a4 : PySem.W.nsIn K mainGlobals "are_nights" = some (some (.ref f4))) (l4 : K.lookup f4 = some ⟨oc4, od4, .func (PySem.W.fnOf "are_nights" "are_nights" (defArgs s_are_nights) (defBody s_are_nights) (defScope s_are_nights) .none kV4 dc4 pm4 an4 (.ref gc4) ct4), sl4⟩) (c4 : PySem.W.codeIn K (.ref gc4) "are_nights" = true) (k4 : PySem.W.keepIn K (.ref f4) = true)
    (a5 : PySem.W.nsIn K mainGlobals "rate_over" = some (some (.ref f5))) (l5 : K.lookup f5 = some ⟨oc5, od5, .func (PySem.W.fnOf "rate_over" "rate_over" (defArgs s_rate_over) (defBody s_rate_over) (defScope s_rate_over) .none kV5 dc5 pm5 an5 cd5 ct5), sl5⟩) (c5 : PySem.W.codeIn K cd5 "rate_over" = true) (k5 : PySem.W.keepIn K (.ref f5) = true)
    (a6 : PySem.W.nsIn K mainGlobals "is_greater" = some (some (.ref f6))) (l6 : K.lookup f6 = some ⟨oc6, od6, .func (PySem.W.fnOf "is_greater" "is_greater" (defArgs s_is_greater) (defBody s_is_greater) (defScope s_is_greater) .none kV6 dc6 pm6 an6 cd6 ct6), sl6⟩) (c6 : PySem.W.codeIn K cd6 "is_greater" = true) (k6 : PySem.W.keepIn K (.ref f6) = true)
    (a7 : PySem.W.nsIn K mainGlobals "are_turned" = some (some (.ref f7))) (l7 : K.lookup f7 = some ⟨oc7, od7, .func (PySem.W.fnOf "are_turned" "are_turned" (defArgs s_are_turned) (defBody s_are_turned) (defScope s_are_turned) .none kV7 dc7 pm7 an7 (.ref gc7) ct7), sl7⟩) (c7 : PySem.W.codeIn K (.ref gc7) "are_turned" = true) (k7 : PySem.W.keepIn K (.ref f7) = true)
    (a8 : PySem.W.nsIn K mainGlobals "told_turned" = some (some (.ref f8))) (l8 : K.lookup f8 = some ⟨oc8, od8, .func (PySem.W.fnOf "told_turned" "told_turned" (defArgs s_told_turned) (defBody s_told_turned) (defScope s_told_turned) .none kV8 dc8 pm8 an8 cd8 ct8), sl8⟩) (c8 : PySem.W.codeIn K cd8 "told_turned" = true) (k8 : PySem.W.keepIn K (.ref f8) = true)
    (a9 : PySem.W.nsIn K mainGlobals "_law_draws" = some (some (.ref f9))) (l9 : K.lookup f9 = some ⟨oc9, od9, .func (PySem.W.fnOf "_law_draws" "_law_draws" (defArgs s__law_draws) (defBody s__law_draws) (defScope s__law_draws) .none kV9 dc9 pm9 an9 cd9 ct9), sl9⟩) (c9 : PySem.W.codeIn K cd9 "_law_draws" = true) (k9 : PySem.W.keepIn K (.ref f9) = true)
    (a10 : PySem.W.nsIn K mainGlobals "_law_take" = some (some (.ref f10))) (l10 : K.lookup f10 = some ⟨oc10, od10, .func (PySem.W.fnOf "_law_take" "_law_take" (defArgs s__law_take) (defBody s__law_take) (defScope s__law_take) .none kV10 dc10 pm10 an10 cd10 ct10), sl10⟩) (c10 : PySem.W.codeIn K cd10 "_law_take" = true) (k10 : PySem.W.keepIn K (.ref f10) = true)
    (a11 : PySem.W.nsIn K mainGlobals "_law_alike" = some (some (.ref f11))) (l11 : K.lookup f11 = some ⟨oc11, od11, .func (PySem.W.fnOf "_law_alike" "_law_alike" (defArgs s__law_alike) (defBody s__law_alike) (defScope s__law_alike) .none kV11 dc11 pm11 an11 cd11 ct11), sl11⟩) (c11 : PySem.W.codeIn K cd11 "_law_alike" = true) (k11 : PySem.W.keepIn K (.ref f11) = true)
    (a12 : PySem.W.nsIn K mainGlobals "_law_lowest" = some (some (.ref f12))) (l12 : K.lookup f12 = some ⟨oc12, od12, .func (PySem.W.fnOf "_law_lowest" "_law_lowest" (defArgs s__law_lowest) (defBody s__law_lowest) (defScope s__law_lowest) .none kV12 dc12 pm12 an12 cd12 ct12), sl12⟩) (c12 : PySem.W.codeIn K cd12 "_law_lowest" = true) (k12 : PySem.W.keepIn K (.ref f12) = true)
    (a13 : PySem.W.nsIn K mainGlobals "_law_nights" = some (some (.ref f13))) (l13 : K.lookup f13 = some ⟨oc13, od13, .func (PySem.W.fnOf "_law_nights" "_law_nights" (defArgs s__law_nights) (defBody s__law_nights) (defScope s__law_nights) .none kV13 dc13 pm13 an13 cd13 ct13), sl13⟩) (c13 : PySem.W.codeIn K cd13 "_law_nights" = true) (k13 : PySem.W.keepIn K (.ref f13) = true)
    (a14 : PySem.W.nsIn K mainGlobals "_law_sums" = some (some (.ref f14))) (l14 : K.lookup f14 = some ⟨oc14, od14, .func (PySem.W.fnOf "_law_sums" "_law_sums" (defArgs s__law_sums) (defBody s__law_sums) (defScope s__law_sums) .none kV14 dc14 pm14 an14 cd14 ct14), sl14⟩) (c14 : PySem.W.codeIn K cd14 "_law_sums" = true) (k14 : PySem.W.keepIn K (.ref f14) = true)
    (a15 : PySem.W.nsIn K mainGlobals "_law_more" = some (some (.ref f15))) (l15 : K.lookup f15 = some ⟨oc15, od15, .func (PySem.W.fnOf "_law_more" "_law_more" (defArgs s__law_more) (defBody s__law_more) (defScope s__law_more) .none kV15 dc15 pm15 an15 cd15 ct15), sl15⟩) (c15 : PySem.W.codeIn K cd15 "_law_more" = true) (k15 : PySem.W.keepIn K (.ref f15) = true)
    (a16 : PySem.W.nsIn K mainGlobals "_law_turned" = some (some (.ref f16))) (l16 : K.lookup f16 = some ⟨oc16, od16, .func (PySem.W.fnOf "_law_turned" "_law_turned" (defArgs s__law_turned) (defBody s__law_turned) (defScope s__law_turned) .none kV16 dc16 pm16 an16 cd16 ct16), sl16⟩) (c16 : PySem.W.codeIn K cd16 "_law_turned" = true) (k16 : PySem.W.keepIn K (.ref f16) = true)
    (a17 : PySem.W.nsIn K mainGlobals "law" = some (some (.ref f17))) (l17 : K.lookup f17 = some ⟨oc17, od17, .func (PySem.W.fnOf "law" "law" (defArgs s_law) (defBody s_law) (defScope s_law) .none kV17 dc17 pm17 an17 cd17 ct17), sl17⟩) (c17 : PySem.W.codeIn K cd17 "law" = true) (k17 : PySem.W.keepIn K (.ref f17) = true)
    (z0 : PySem.W.nsIn K mainGlobals "abs" = some none)
    (z1 : PySem.W.nsIn K mainGlobals "all" = some none)
    (z2 : PySem.W.nsIn K mainGlobals "bool" = some none)
    (z3 : PySem.W.nsIn K mainGlobals "int" = some none)
    (z4 : PySem.W.nsIn K mainGlobals "isinstance" = some none)
    (z5 : PySem.W.nsIn K mainGlobals "len" = some none)
    (z6 : PySem.W.nsIn K mainGlobals "list" = some none)
    (z7 : PySem.W.nsIn K mainGlobals "max" = some none)
    (z8 : PySem.W.nsIn K mainGlobals "min" = some none)
    (z9 : PySem.W.nsIn K mainGlobals "range" = some none)
    (z10 : PySem.W.nsIn K mainGlobals "reversed" = some none)
    (z11 : PySem.W.nsIn K mainGlobals "str" = some none)
    (z12 : PySem.W.nsIn K mainGlobals "sum" = some none)
    (z13 : PySem.W.nsIn K mainGlobals "tuple" = some none)
    (m0 : PySem.W.nsIn K mainGlobals "gcd" = some (some (.builtin "math.gcd")))
    (g3 : K.lookup gc3 = some ⟨go3, gd3, .fields gv3, gs3⟩) (v3 : gv3[11]? = some (.ref gp3)) (u3 : K.lookup gp3 = none)
    (g4 : K.lookup gc4 = some ⟨go4, gd4, .fields gv4, gs4⟩) (v4 : gv4[11]? = some (.ref gp4)) (u4 : K.lookup gp4 = none)
    (g7 : K.lookup gc7 = some ⟨go7, gd7, .fields gv7, gs7⟩) (v7 : gv7[11]? = some (.ref gp7)) (u7 : K.lookup gp7 = none)
    (cx_MOST_SEEN : PySem.W.nsIn K mainGlobals "MOST_SEEN" = some (some (.int 100 tk1)))
    (cx_MOST_HOURS : PySem.W.nsIn K mainGlobals "MOST_HOURS" = some (some (.int 24 tk2)))
    (cx_MOST_NIGHTS : PySem.W.nsIn K mainGlobals "MOST_NIGHTS" = some (some (.int 7 tk3)))
    {rd3 : DefRec} (r3 : (recsOf p).find? (fun e => e.name == ("is_night" : Str)) = some rd3) {rd4 : DefRec} (r4 : (recsOf p).find? (fun e => e.name == ("are_nights" : Str)) = some rd4) {rd7 : DefRec} (r7 : (recsOf p).find? (fun e => e.name == ("are_turned" : Str)) = some rd7) :
    LamX.LawAtS PySem.Challenge.rw_nightsgiven_k62_whole_nights_together w K (L2.CX PySem.Challenge.rw_nightsgiven_k62_whole_nights_together.prog w) 7 63 "script" mg fa h := by
  have e := hfa.symm.trans (PySem.W.mg_of X G a17)
  cases e
  have T := txt_mk X G a0 l0 c0 k0 a1 l1 c1 k1 a2 l2 c2 k2 a3 l3 c3 k3 a4 l4 c4 k4 a5 l5 c5 k5 a6 l6 c6 k6 a7 l7 c7 k7 a8 l8 c8 k8 a9 l9 c9 k9 a10 l10 c10 k10 a11 l11 c11 k11 a12 l12 c12 k12 a13 l13 c13 k13 a14 l14 c14 k14 a15 l15 c15 k15 a16 l16 c16 k16 a17 l17 c17 k17 z0 z1 z2 z3 z4 z5 z6 z7 z8 z9 z10 z11 z12 z13 m0 g3 v3 u3 g4 v4 u4 g7 v7 u7 cx_MOST_SEEN cx_MOST_HOURS cx_MOST_NIGHTS
  have w3 := PySem.W.tab_of T0 X r3 (tabIn_of a3 l3 rfl g3 v3)
  have w4 := PySem.W.tab_of T0 X r4 (tabIn_of a4 l4 rfl g4 v4)
  have w7 := PySem.W.tab_of T0 X r7 (tabIn_of a7 l7 rfl g7 v7)
  refine ⟨PySem.W.fnOf "law" "law" (defArgs s_law) (defBody s_law) (defScope s_law) .none kV17 dc17 pm17 an17 cd17 ct17, [(gc3, gp3), (gc4, gp4), (gc7, gp7)], spLaw K (LL ⟨f0, PySem.W.fnOf "is_number" "is_number" (defArgs s_is_number) (defBody s_is_number) (defScope s_is_number) .none kV0 dc0 pm0 an0 cd0 ct0, f1, PySem.W.fnOf "lowest" "lowest" (defArgs s_lowest) (defBody s_lowest) (defScope s_lowest) .none kV1 dc1 pm1 an1 cd1 ct1, f2, PySem.W.fnOf "less" "less" (defArgs s_less) (defBody s_less) (defScope s_less) .none kV2 dc2 pm2 an2 cd2 ct2, f3, PySem.W.fnOf "is_night" "is_night" (defArgs s_is_night) (defBody s_is_night) (defScope s_is_night) .none kV3 dc3 pm3 an3 (.ref gc3) ct3, f4, PySem.W.fnOf "are_nights" "are_nights" (defArgs s_are_nights) (defBody s_are_nights) (defScope s_are_nights) .none kV4 dc4 pm4 an4 (.ref gc4) ct4, f5, PySem.W.fnOf "rate_over" "rate_over" (defArgs s_rate_over) (defBody s_rate_over) (defScope s_rate_over) .none kV5 dc5 pm5 an5 cd5 ct5, f6, PySem.W.fnOf "is_greater" "is_greater" (defArgs s_is_greater) (defBody s_is_greater) (defScope s_is_greater) .none kV6 dc6 pm6 an6 cd6 ct6, f7, PySem.W.fnOf "are_turned" "are_turned" (defArgs s_are_turned) (defBody s_are_turned) (defScope s_are_turned) .none kV7 dc7 pm7 an7 (.ref gc7) ct7, f8, PySem.W.fnOf "told_turned" "told_turned" (defArgs s_told_turned) (defBody s_told_turned) (defScope s_told_turned) .none kV8 dc8 pm8 an8 cd8 ct8, f9, PySem.W.fnOf "_law_draws" "_law_draws" (defArgs s__law_draws) (defBody s__law_draws) (defScope s__law_draws) .none kV9 dc9 pm9 an9 cd9 ct9, f10, PySem.W.fnOf "_law_take" "_law_take" (defArgs s__law_take) (defBody s__law_take) (defScope s__law_take) .none kV10 dc10 pm10 an10 cd10 ct10, f11, PySem.W.fnOf "_law_alike" "_law_alike" (defArgs s__law_alike) (defBody s__law_alike) (defScope s__law_alike) .none kV11 dc11 pm11 an11 cd11 ct11, f12, PySem.W.fnOf "_law_lowest" "_law_lowest" (defArgs s__law_lowest) (defBody s__law_lowest) (defScope s__law_lowest) .none kV12 dc12 pm12 an12 cd12 ct12, f13, PySem.W.fnOf "_law_nights" "_law_nights" (defArgs s__law_nights) (defBody s__law_nights) (defScope s__law_nights) .none kV13 dc13 pm13 an13 cd13 ct13, f14, PySem.W.fnOf "_law_sums" "_law_sums" (defArgs s__law_sums) (defBody s__law_sums) (defScope s__law_sums) .none kV14 dc14 pm14 an14 cd14 ct14, f15, PySem.W.fnOf "_law_more" "_law_more" (defArgs s__law_more) (defBody s__law_more) (defScope s__law_more) .none kV15 dc15 pm15 an15 cd15 ct15, f16, PySem.W.fnOf "_law_turned" "_law_turned" (defArgs s__law_turned) (defBody s__law_turned) (defScope s__law_turned) .none kV16 dc16 pm16 an16 cd16 ct16, fa, PySem.W.fnOf "law" "law" (defArgs s_law) (defBody s_law) (defScope s_law) .none kV17 dc17 pm17 an17 cd17 ct17, gc3, gp3, gc4, gp4, gc7, gp7⟩), ?_, ?_, ?_, fun s u => .of_eq rfl, fun H a ns hl hb ht hs => ⟨a, ns, rfl, hs, hl, hb, ?_, fun _ => rfl⟩, fun base _ _ hB => ok_law T ?_⟩
  · exact fun p z => by
      simp only [List.mem_cons, List.not_mem_nil, or_false] at z
      rcases z with rfl | rfl | rfl
      · exact w3.2
      · exact w4.2
      · exact w7.2
     
  · exact fun p z => by
      simp only [List.mem_cons, List.not_mem_nil, or_false] at z
      rcases z with rfl | rfl | rfl
      · exact u3
      · exact u4
      · exact u7
     
  · exact fun p z => by
      simp only [List.mem_cons, List.not_mem_nil, or_false] at z
      rcases z with rfl | rfl | rfl
      · exact w3.1
      · exact w4.1
      · exact w7.1
     
  · intro P hP
    simp only [LL, lwA, lwB, List.mem_cons, List.not_mem_nil, or_false] at hP
    rcases hP with hP | hP | hP
    · rw [hP]; exact ⟨#[], ht (gc3, gp3) (by simp), trivial⟩
    · rw [hP]; exact ⟨#[], ht (gc4, gp4) (by simp), trivial⟩
    · rw [hP]; exact ⟨#[], ht (gc7, gp7) (by simp), trivial⟩
  · exact ⟨hB (gc3, gp3) (by simp), hB (gc4, gp4) (by simp), hB (gc7, gp7) (by simp)⟩
end Lw
open PySem PySem.W PyProof.Rows
set_option maxHeartbeats 0 in
theorem PySem.Challenge.cw_nightsgiven_k62_whole_nights_together_holds : PySem.Challenge.rw_nightsgiven_k62_whole_nights_together.Holds := by
  w_on; o_law; k_head; (case hw => w_witness2)
  k_fill
  refine FL.walk_ofTt (l := PySem.Challenge.rw_nightsgiven_k62_whole_nights_together) (n := 63) (k := 7) (x := "script") (CX := fun w => L2.CX PySem.Challenge.rw_nightsgiven_k62_whole_nights_together.prog w) rfl (by decide) rfl ⟨rfl, by decide, by decide⟩ (fun w h Y => PySem.W.kIn_of Y) ?F FL.cx_none
  case F =>
    intro w mg mb fa h mean Y KX T0 G hmg
    refine' Lw.law_mk KX T0 G hmg ?a0 ?l0 ?c0 ?k0 ?a1 ?l1 ?c1 ?k1 ?a2 ?l2 ?c2 ?k2 ?a3 ?l3 ?c3 ?k3 ?a4 ?l4 ?c4 ?k4 ?a5 ?l5 ?c5 ?k5 ?a6 ?l6 ?c6 ?k6 ?a7 ?l7 ?c7 ?k7 ?a8 ?l8 ?c8 ?k8 ?a9 ?l9 ?c9 ?k9 ?a10 ?l10 ?c10 ?k10 ?a11 ?l11 ?c11 ?k11 ?a12 ?l12 ?c12 ?k12 ?a13 ?l13 ?c13 ?k13 ?a14 ?l14 ?c14 ?k14 ?a15 ?l15 ?c15 ?k15 ?a16 ?l16 ?c16 ?k16 ?a17 ?l17 ?c17 ?k17 ?z0 ?z1 ?z2 ?z3 ?z4 ?z5 ?z6 ?z7 ?z8 ?z9 ?z10 ?z11 ?z12 ?z13 ?m0 ?g3 ?v3 ?u3 ?g4 ?v4 ?u4 ?g7 ?v7 ?u7 ?cx_MOST_SEEN ?cx_MOST_HOURS ?cx_MOST_NIGHTS ?r3 ?r4 ?r7
    (case a0 => k_is); (case l0 => k_is); (case c0 => k_is); (case k0 => k_is); (case a1 => k_is); (case l1 => k_is); (case c1 => k_is); (case k1 => k_is); (case a2 => k_is); (case l2 => k_is); (case c2 => k_is); (case k2 => k_is); (case a3 => k_is); (case l3 => k_is); (case c3 => k_is); (case k3 => k_is); (case a4 => k_is); (case l4 => k_is); (case c4 => k_is); (case k4 => k_is); (case a5 => k_is); (case l5 => k_is); (case c5 => k_is); (case k5 => k_is); (case a6 => k_is); (case l6 => k_is); (case c6 => k_is); (case k6 => k_is); (case a7 => k_is); (case l7 => k_is); (case c7 => k_is); (case k7 => k_is); (case a8 => k_is); (case l8 => k_is); (case c8 => k_is); (case k8 => k_is); (case a9 => k_is); (case l9 => k_is); (case c9 => k_is); (case k9 => k_is); (case a10 => k_is); (case l10 => k_is); (case c10 => k_is); (case k10 => k_is); (case a11 => k_is); (case l11 => k_is); (case c11 => k_is); (case k11 => k_is); (case a12 => k_is); (case l12 => k_is); (case c12 => k_is); (case k12 => k_is); (case a13 => k_is); (case l13 => k_is); (case c13 => k_is); (case k13 => k_is); (case a14 => k_is); (case l14 => k_is); (case c14 => k_is); (case k14 => k_is); (case a15 => k_is); (case l15 => k_is); (case c15 => k_is); (case k15 => k_is); (case a16 => k_is); (case l16 => k_is); (case c16 => k_is); (case k16 => k_is); (case a17 => k_is); (case l17 => k_is); (case c17 => k_is); (case k17 => k_is); (case z0 => k_is); (case z1 => k_is); (case z2 => k_is); (case z3 => k_is); (case z4 => k_is); (case z5 => k_is); (case z6 => k_is); (case z7 => k_is); (case z8 => k_is); (case z9 => k_is); (case z10 => k_is); (case z11 => k_is); (case z12 => k_is); (case z13 => k_is); (case m0 => k_is); (case g3 => k_is); (case v3 => rfl); (case u3 => rfl); (case g4 => k_is); (case v4 => rfl); (case u4 => rfl); (case g7 => k_is); (case v7 => rfl); (case u7 => rfl); (case cx_MOST_SEEN => k_is); (case cx_MOST_HOURS => k_is); (case cx_MOST_NIGHTS => k_is); (case r3 => rfl); (case r4 => rfl); (case r7 => rfl)

