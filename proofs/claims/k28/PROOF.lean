import PyProof.Rows.All
import Wide.All
import OpenK.AllK
import Wide.FinOn
import HandS.ForMost
import HandS.ForExc
import HandS.Walk
import HandS.Wide
import HandS.Deep
import HandS.Conv
import HandS.IsInst
import HandS.TupAny
import HandS.CallSlots
import HandS.EndTab
import HandS.Style
import HandS.Flow
import HandS.Rev
import HandS.RevTup
import KE.KRevIter
import PySem.Challenge.RW_nightsgiven_k28_whole_exposures
set_option Elab.async false
set_option linter.all false
set_option maxRecDepth 100000
set_option maxHeartbeats 4000000
/-! FL1: a by-value reading over the hand layer: data in place of heaps. -/
namespace FL
open PySem PySem.Spec PyProof.Rows L2

abbrev D := PyData
/-- what a slot holds: nothing that is known, a datum, a list of its own that may grow, the law's draws -/
inductive Cel where
  | no | fz (d : D) | ow (ds : List D) | dr
abbrev Sl := List Cel

/-- a law's own: the tables of code objects that may grow; what its draws are like -/
structure Lw where
  tabs : List Addr
  good : List D → Prop
/-- where a def began: the heap, what of it is told by data, the draws' address -/
structure Beg where
  H0 : Hp
  F0 : Hp
  dr : Option Addr

theorem same_upd {H : Hp} {p : Addr} {o : HO} (h : H p = none) : Same H (upd H p o) := fun b x e => by
  rw [upd_ne (ne_of_none e h)]
  exact e
theorem same_sqT {K : PySem.W.Frag} {H H' : Hp} {a : Addr} {xs : List V} (e : Same H H') (h : SqT K H a xs) : SqT K H' a xs := by
  rcases h with (h | ⟨o, h⟩) | h
  · exact .inl (.inl (e _ _ h))
  · exact .inl (.inr ⟨o, e _ _ h⟩)
  · exact .inr h
/-! what stands at a value, as data (lists: tracked ones) -/
mutual
inductive Dt (K : PySem.W.Frag) (H : Hp) : V → PyData → Prop
  | non : Dt K H .non .none
  | bl (b : Bool) : Dt K H (.bl b) (.bool b)
  | int (i : Int) : Dt K H (.int i) (.int i)
  | str (x : Str) : Dt K H (.str x) (.str x)
  | lst {a : Addr} {xs : List V} {ds : List PyData} : SqL K H a xs → DtAll K H xs ds → Dt K H (.ref a) (.list ds)
  | tup {a : Addr} {xs : List V} {ds : List PyData} : SqT K H a xs → DtAll K H xs ds → Dt K H (.ref a) (.tuple ds)
inductive DtAll (K : PySem.W.Frag) (H : Hp) : List V → List PyData → Prop
  | nil : DtAll K H [] []
  | cons {v : V} {vs : List V} {d : PyData} {ds : List PyData} : Dt K H v d → DtAll K H vs ds → DtAll K H (v :: vs) (d :: ds)
end
theorem same_rd {H H' : Hp} {a : Addr} {u : HO} (e : Same H H') (h : Rd H a u) : Rd H' a u := by
  rcases h with h | ⟨o, h⟩
  · exact .inl (e _ _ h)
  · exact .inr ⟨o, e _ _ h⟩
mutual
theorem dt_dp {K : PySem.W.Frag} {H : Hp} : ∀ {v : V} {d : D}, Dt K H v d → L2.Dp K H v d
  | _, .none, h => by cases h; exact .non
  | _, .bool _, h => by cases h; exact .bl _
  | _, .int _, h => by cases h; exact .int _
  | _, .str _, h => by cases h; exact .str _
  | _, .list ds, h => by
    cases h with
    | lst hs ha => exact .lst hs (dts_dp ha)
  | _, .tuple ds, h => by
    cases h with
    | tup hs ha => exact .tup hs (dts_dp ha)
  | _, .dict _, h => by cases h
theorem dts_dp {K : PySem.W.Frag} {H : Hp} : ∀ {vs : List V} {ds : List D}, DtAll K H vs ds → L2.DpAll K H vs ds
  | _, [], h => by cases h; exact .nil
  | _, _ :: _, h => by
    cases h with
    | cons h1 h2 => exact .cons (dt_dp h1) (dts_dp h2)
end
mutual
theorem dp_mono {K : PySem.W.Frag} {H H' : Hp} (e : Same H H') : ∀ {v : V} {d : D}, Dt K H v d → Dt K H' v d
  | _, .none, h => by cases h; exact .non
  | _, .bool _, h => by cases h; exact .bl _
  | _, .int _, h => by cases h; exact .int _
  | _, .str _, h => by cases h; exact .str _
  | _, .list ds, h => by
    cases h with
    | lst hs ha => exact .lst (e.seq hs) (dps_mono e ha)
  | _, .tuple ds, h => by
    cases h with
    | tup hs ha => exact .tup (same_sqT e hs) (dps_mono e ha)
  | _, .dict _, h => by cases h
theorem dps_mono {K : PySem.W.Frag} {H H' : Hp} (e : Same H H') : ∀ {vs : List V} {ds : List D}, DtAll K H vs ds → DtAll K H' vs ds
  | _, [], h => by cases h; exact .nil
  | _, _ :: _, h => by
    cases h with
    | cons h1 h2 => exact .cons (dp_mono e h1) (dps_mono e h2)
end
section
variable {K : PySem.W.Frag} {H : Hp}
theorem dps_len : ∀ {vs : List V} {ds : List D}, DtAll K H vs ds → vs.length = ds.length
  | _, [], h => by cases h; rfl
  | _, _ :: _, h => by
    cases h with
    | cons h1 h2 => simp [dps_len h2]
theorem dps_app : ∀ {vs : List V} {ds : List D} {us : List V} {es : List D}, DtAll K H vs ds → DtAll K H us es → DtAll K H (vs ++ us) (ds ++ es)
  | _, [], _, _, h, h' => by cases h; exact h'
  | _, _ :: _, _, _, h, h' => by
    cases h with
    | cons h1 h2 => exact .cons h1 (dps_app h2 h')
theorem dps_one {v : V} {d : D} (h : Dt K H v d) : DtAll K H [v] [d] := .cons h .nil
theorem dps_get : ∀ {vs : List V} {ds : List D} {i : Nat} {d : D}, DtAll K H vs ds → ds[i]? = some d → ∃ v, vs[i]? = some v ∧ Dt K H v d
  | _, [], _, _, h, e => by simp at e
  | _, d :: ds, 0, _, h, e => by
    cases h with
    | cons h1 h2 => simp at e; subst e; exact ⟨_, rfl, h1⟩
  | _, d :: ds, i + 1, _, h, e => by
    cases h with
    | cons h1 h2 =>
      obtain ⟨v, e1, e2⟩ := dps_get (i := i) h2 (by simpa using e)
      exact ⟨v, by simpa using e1, e2⟩
theorem dps_getv : ∀ {vs : List V} {ds : List D} {i : Nat} {v : V}, DtAll K H vs ds → vs[i]? = some v → ∃ d, ds[i]? = some d ∧ Dt K H v d
  | _, [], _, _, h, e => by cases h; simp at e
  | _, d :: ds, 0, _, h, e => by
    cases h with
    | cons h1 h2 => simp at e; subst e; exact ⟨_, rfl, h1⟩
  | _, d :: ds, i + 1, _, h, e => by
    cases h with
    | cons h1 h2 =>
      obtain ⟨v, e1, e2⟩ := dps_getv (i := i) h2 (by simpa using e)
      exact ⟨v, by simpa using e1, e2⟩
theorem dps_take : ∀ {vs : List V} {ds : List D} (n : Nat), DtAll K H vs ds → DtAll K H (vs.take n) (ds.take n)
  | _, [], n, h => by cases h; simp; exact .nil
  | _, _ :: _, 0, h => by simp; exact .nil
  | _, _ :: _, n + 1, h => by
    cases h with
    | cons h1 h2 => exact .cons h1 (dps_take n h2)
theorem dps_drop : ∀ {vs : List V} {ds : List D} (n : Nat), DtAll K H vs ds → DtAll K H (vs.drop n) (ds.drop n)
  | _, [], n, h => by cases h; simp; exact .nil
  | _, _ :: _, 0, h => h
  | _, _ :: _, n + 1, h => by
    cases h with
    | cons h1 h2 => exact dps_drop n h2
theorem dps_set {v : V} {d : D} (q : Dt K H v d) : ∀ {vs : List V} {ds : List D} (i : Nat), DtAll K H vs ds → DtAll K H (vs.set i v) (ds.set i d)
  | _, [], i, h => by cases h; exact .nil
  | _, _ :: _, 0, h => by
    cases h with
    | cons h1 h2 => exact .cons q h2
  | _, _ :: _, i + 1, h => by
    cases h with
    | cons h1 h2 => exact .cons h1 (dps_set q i h2)
theorem dps_ints : ∀ {ns : List Int} {vs : List V}, DtAll K H vs (ns.map .int) → vs = ns.map V.int
  | [], _, h => by cases h; rfl
  | _ :: _, _, h => by
    cases h with
    | cons h1 h2 => cases h1; simp [dps_ints h2]
theorem dps_of_ints : ∀ (ns : List Int), DtAll K H (ns.map V.int) (ns.map .int)
  | [] => .nil
  | n :: ns => .cons (.int n) (dps_of_ints ns)
theorem dps_bools : ∀ {ns : List Bool} {vs : List V}, DtAll K H vs (ns.map .bool) → vs = ns.map V.bl
  | [], _, h => by cases h; rfl
  | _ :: _, _, h => by
    cases h with
    | cons h1 h2 => cases h1; simp [dps_bools h2]
end

/-- what of a heap an expression keeps -/
def Kp (b : Beg) (H H' : Hp) : Prop := ∀ a o, H a = some o → b.dr ≠ some a → (∀ ps, o ≠ .tbl ps) → H' a = some o
theorem Kp.refl {b : Beg} {H : Hp} : Kp b H H := fun _ _ h _ _ => h
theorem Kp.trans {b : Beg} {H H1 H2 : Hp} (x : Kp b H H1) (y : Kp b H1 H2) : Kp b H H2 := fun a o h n t => y a o (x a o h n t) n t
theorem Kp.of {b : Beg} {H H' : Hp} (x : Same H H') : Kp b H H' := fun a o h _ _ => x a o h

/-- a table of code objects that may grow -/
def TabG (H : Hp) (P : Addr) : Prop := ∃ ps : Array Value, H P = some (.tbl ps) ∧ TriplesOk ps.toList

structure Grd (K : PySem.W.Frag) (L : Lw) (b : Beg) (F H : Hp) : Prop where
  sub : Same F H
  old : Same b.F0 F
  new : ∀ a o, F a = some o → b.F0 a = some o ∨ b.H0 a = none
  keep : Kp b b.H0 H
  live : ∀ a, H a = none → b.H0 a = none
  drw : ∀ a, b.dr = some a → F a = none ∧ ∃ vs ds, H a = some (.lst vs) ∧ DtAll K F vs ds ∧ L.good ds
  tab : ∀ P ∈ L.tabs, TabG H P
  ntb : ∀ a ps, F a ≠ some (.tbl ps)

def CelOk (K : PySem.W.Frag) (b : Beg) (F H : Hp) (v : Option V) : Cel → Prop
  | .no => True
  | .fz d => ∃ x, v = some x ∧ Dt K F x d
  | .ow ds => ∃ a vs, v = some (.ref a) ∧ b.H0 a = none ∧ b.dr ≠ some a ∧ F a = none ∧ H a = some (.lst vs) ∧ DtAll K F vs ds
  | .dr => ∃ a, v = some (.ref a) ∧ b.dr = some a
def isOw : Option Cel → Prop
  | some (.ow _) => True
  | _ => False
structure Rel (K : PySem.W.Frag) (L : Lw) (b : Beg) (F : Hp) (s : Sl) (σ : L2.St) (H : Hp) : Prop extends Grd K L b F H where
  len : σ.length = s.length
  slot : ∀ (i : Nat) c, s[i]? = some c → CelOk K b F H (σ.getD i none) c
  apart : ∀ (i j : Nat) a, i ≠ j → isOw s[i]? → isOw s[j]? → σ[i]? = some (some (.ref a)) → σ[j]? ≠ some (some (.ref a))

section
variable {K : PySem.W.Frag} {L : Lw} {b : Beg} {F F' : Hp} {s : Sl} {σ : L2.St} {H H' : Hp}
theorem CelOk.mono {v : Option V} {c : Cel} (x : CelOk K b F H v c) (hF : Same F F') (hn : ∀ a, F a = none → H a ≠ none → F' a = none) (hH : Kp b H H') : CelOk K b F' H' v c := by
  cases c with
  | no => trivial
  | fz d => obtain ⟨x, e, h⟩ := x; exact ⟨x, e, dp_mono hF h⟩
  | ow ds =>
    obtain ⟨a, vs, e, h0, hd, hf, hh, hs⟩ := x
    exact ⟨a, vs, e, h0, hd, hn a hf (by rw [hh]; simp), hH a _ hh hd (fun ps z => by cases z), dps_mono hF hs⟩
  | dr => exact x
/-- a new object, not told -/
theorem Grd.lay {p : Addr} {o : HO} (R : Grd K L b F H) (hp : H p = none) : Grd K L b F (upd H p o) where
  sub := fun a x h => same_upd hp a x (R.sub a x h)
  old := R.old
  new := R.new
  keep := R.keep.trans (Kp.of (same_upd hp))
  live := fun a h => R.live a (by
    cases q : H a with
    | none => rfl
    | some u => rw [same_upd hp a u q] at h; cases h)
  drw := fun a h => by
    obtain ⟨h1, vs, ds, h2, h3⟩ := R.drw a h
    exact ⟨h1, vs, ds, same_upd hp a _ h2, h3⟩
  tab := fun P h => by
    obtain ⟨ps, e, t⟩ := R.tab P h
    exact ⟨ps, same_upd hp P _ e, t⟩
  ntb := R.ntb
/-- a laid object is told from now on -/
theorem Grd.tell {p : Addr} {o : HO} (R : Grd K L b F H) (h0 : b.H0 p = none) (hd : b.dr ≠ some p) (e : H p = some o) (hf : F p = none) (ht : ∀ ps, o ≠ .tbl ps) : Grd K L b (upd F p o) H where
  sub := fun a x h => by
    by_cases q : a = p
    · subst q; rw [upd_same] at h; cases h; exact e
    · rw [upd_ne q] at h; exact R.sub a x h
  old := fun a x h => by
    by_cases q : a = p
    · subst q; rw [R.old a x h] at hf; cases hf
    · rw [upd_ne q]; exact R.old a x h
  new := fun a x h => by
    by_cases q : a = p
    · subst q; exact .inr h0
    · rw [upd_ne q] at h; exact R.new a x h
  keep := R.keep
  live := R.live
  drw := fun a h => by
    obtain ⟨h1, vs, ds, h2, h3, h4⟩ := R.drw a h
    have q : a ≠ p := fun z => hd (by rw [← z]; exact h)
    exact ⟨by rw [upd_ne q]; exact h1, vs, ds, h2, dps_mono (same_upd hf) h3, h4⟩
  tab := R.tab
  ntb := fun a ps h => by
    by_cases q : a = p
    · subst q; rw [upd_same] at h; cases h; exact ht ps rfl
    · rw [upd_ne q] at h; exact R.ntb a ps h
theorem Grd.dr_some (R : Grd K L b F H) {p : Addr} (hp : H p = none) : b.dr ≠ some p := fun z => by
  obtain ⟨_, vs, ds, e, _⟩ := R.drw p z
  rw [hp] at e; cases e
theorem Grd.f_none (R : Grd K L b F H) {p : Addr} (hp : H p = none) : F p = none := by
  cases q : F p with
  | none => rfl
  | some u => rw [R.sub p u q] at hp; cases hp
theorem Rel.lay {p : Addr} {o : HO} (R : Rel K L b F s σ H) (hp : H p = none) : Rel K L b F s σ (upd H p o) :=
  { R.toGrd.lay hp with len := R.len, slot := fun i c e => (R.slot i c e).mono (fun _ _ h => h) (fun _ h _ => h) (Kp.of (same_upd hp)), apart := R.apart }
theorem Rel.tell {p : Addr} {o : HO} (R : Rel K L b F s σ H) (h0 : b.H0 p = none) (hd : b.dr ≠ some p) (e : H p = some o) (hf : F p = none) (ht : ∀ ps, o ≠ .tbl ps)
    (hn : ∀ (i : Nat), isOw s[i]? → σ[i]? ≠ some (some (.ref p))) : Rel K L b (upd F p o) s σ H :=
  { R.toGrd.tell h0 hd e hf ht with
    len := R.len
    slot := fun i c q => by
      have x := R.slot i c q
      cases c with
      | no => trivial
      | fz d => obtain ⟨y, e1, h⟩ := x; exact ⟨y, e1, dp_mono (same_upd hf) h⟩
      | dr => exact x
      | ow ds =>
        obtain ⟨a, vs, e1, h1, h2, h3, h4, h5⟩ := x
        have ne : a ≠ p := fun z => hn i (by rw [q]; trivial) (by
          rw [← z]
          have hi : i < σ.length := by rw [R.len]; exact (List.getElem?_eq_some_iff.mp q).1
          rw [List.getD_eq_getElem?_getD, List.getElem?_eq_getElem hi] at e1
          rw [List.getElem?_eq_getElem hi]
          exact congrArg some e1)
        exact ⟨a, vs, e1, h1, h2, by rw [upd_ne ne]; exact h3, h4, dps_mono (same_upd hf) h5⟩
    apart := R.apart }
theorem Rel.ow_some (R : Rel K L b F s σ H) {p : Addr} (hp : H p = none) (i : Nat) (q : isOw s[i]?) : σ[i]? ≠ some (some (.ref p)) := fun z => by
  cases e : s[i]? with
  | none => rw [e] at q; exact q
  | some c =>
    rw [e] at q
    cases c with
    | ow ds =>
      obtain ⟨a, vs, e1, h1, h2, h3, h4, h5⟩ := R.slot i _ e
      rw [List.getD_eq_getElem?_getD, z] at e1
      cases e1
      rw [hp] at h4; cases h4
    | _ => exact q
/-- a new object, told -/
theorem Rel.new1 {p : Addr} {o : HO} (R : Rel K L b F s σ H) (hp : H p = none) (ht : ∀ ps, o ≠ .tbl ps) : Rel K L b (upd F p o) s σ (upd H p o) :=
  (R.lay hp).tell (R.live p hp) (R.dr_some hp) upd_same (R.f_none hp) ht (fun i q => R.ow_some hp i q)
/-- slot i holds a datum from now on -/
theorem Rel.put {i : Nat} {v : V} {d : D} (R : Rel K L b F s σ H) (h : Dt K F v d) : Rel K L b F (s.set i (.fz d)) (σ.set i (some v)) H :=
  { R.toGrd with
    len := by rw [List.length_set, List.length_set, R.len]
    slot := fun j c e => by
      by_cases q : j = i
      · subst q
        rw [List.getElem?_set] at e
        split at e
        · split at e
          · cases e
            rename_i hj
            refine ⟨v, ?_, h⟩
            rw [List.getD_eq_getElem?_getD, List.getElem?_set, if_pos rfl, if_pos (by rw [R.len]; exact hj)]
            rfl
          · cases e
        · rename_i z; exact absurd rfl z
      · rw [List.getElem?_set_ne (Ne.symm q)] at e
        have x := R.slot j c e
        rw [List.getD_eq_getElem?_getD] at x ⊢
        rw [List.getElem?_set_ne (Ne.symm q)]
        exact x
    apart := fun j k a n h1 h2 h3 h4 => by
      have nj : j ≠ i := fun z => by
        subst z; rw [List.getElem?_set] at h1
        split at h1
        · split at h1 <;> exact h1
        · rename_i z; exact absurd rfl z
      have nk : k ≠ i := fun z => by
        subst z; rw [List.getElem?_set] at h2
        split at h2
        · split at h2 <;> exact h2
        · rename_i z; exact absurd rfl z
      rw [List.getElem?_set_ne (Ne.symm nj)] at h1 h3
      rw [List.getElem?_set_ne (Ne.symm nk)] at h2 h4
      exact R.apart j k a n h1 h2 h3 h4 }
/-- slot i is forgotten -/
theorem Rel.drop1 {i : Nat} {v : Option V} (R : Rel K L b F s σ H) : Rel K L b F (s.set i .no) (σ.set i v) H :=
  { R.toGrd with
    len := by rw [List.length_set, List.length_set, R.len]
    slot := fun j c e => by
      by_cases q : j = i
      · subst q
        rw [List.getElem?_set] at e
        split at e
        · split at e
          · cases e; trivial
          · cases e
        · rename_i z; exact absurd rfl z
      · rw [List.getElem?_set_ne (Ne.symm q)] at e
        have x := R.slot j c e
        rw [List.getD_eq_getElem?_getD] at x ⊢
        rw [List.getElem?_set_ne (Ne.symm q)]
        exact x
    apart := fun j k a n h1 h2 h3 h4 => by
      have nj : j ≠ i := fun z => by
        subst z; rw [List.getElem?_set] at h1
        split at h1
        · split at h1 <;> exact h1
        · rename_i z; exact absurd rfl z
      have nk : k ≠ i := fun z => by
        subst z; rw [List.getElem?_set] at h2
        split at h2
        · split at h2 <;> exact h2
        · rename_i z; exact absurd rfl z
      rw [List.getElem?_set_ne (Ne.symm nj)] at h1 h3
      rw [List.getElem?_set_ne (Ne.symm nk)] at h2 h4
      exact R.apart j k a n h1 h2 h3 h4 }
/-- slot i owns the new list at p -/
theorem Rel.putO {i : Nat} {p : Addr} {vs : List V} {ds : List D} (R : Rel K L b F s σ H) (h0 : b.H0 p = none) (hd : b.dr ≠ some p) (hf : F p = none) (hn : ∀ (j : Nat), isOw s[j]? → σ[j]? ≠ some (some (.ref p)))
    (e : H p = some (.lst vs)) (h : DtAll K F vs ds) : Rel K L b F (s.set i (.ow ds)) (σ.set i (some (.ref p))) H :=
  { R.toGrd with
    len := by rw [List.length_set, List.length_set, R.len]
    slot := fun j c e' => by
      by_cases q : j = i
      · subst q
        rw [List.getElem?_set] at e'
        split at e'
        · split at e'
          · cases e'
            rename_i hj
            refine ⟨p, vs, ?_, h0, hd, hf, e, h⟩
            rw [List.getD_eq_getElem?_getD, List.getElem?_set, if_pos rfl, if_pos (by rw [R.len]; exact hj)]
            rfl
          · cases e'
        · rename_i z; exact absurd rfl z
      · rw [List.getElem?_set_ne (Ne.symm q)] at e'
        have x := R.slot j c e'
        rw [List.getD_eq_getElem?_getD] at x ⊢
        rw [List.getElem?_set_ne (Ne.symm q)]
        exact x
    apart := fun j k a n h1 h2 h3 h4 => by
      by_cases nj : j = i
      · subst nj
        rw [List.getElem?_set_ne n] at h2 h4
        have hj : j < σ.length := by
          rw [List.getElem?_set] at h3
          split at h3
          · split at h3
            · assumption
            · cases h3
          · rename_i z; exact absurd rfl z
        rw [List.getElem?_set, if_pos rfl, if_pos hj] at h3
        cases h3
        exact hn k h2 h4
      · rw [List.getElem?_set_ne (Ne.symm nj)] at h1 h3
        by_cases nk : k = i
        · subst nk
          have hk : k < σ.length := by
            rw [List.getElem?_set] at h4
            split at h4
            · split at h4
              · assumption
              · cases h4
            · rename_i z; exact absurd rfl z
          rw [List.getElem?_set, if_pos rfl, if_pos hk] at h4
          cases h4
          exact hn j h1 h3
        · rw [List.getElem?_set_ne (Ne.symm nk)] at h2 h4
          exact R.apart j k a n h1 h2 h3 h4 }
end
end FL

/-! FL2: judgements by data: expressions, tests, arguments, statements; the rules of plain code. -/
namespace FL
open PySem PySem.Spec PyProof.Rows L2

abbrev We := Sl → (D → Prop) → (Value → Prop) → Prop
abbrev Wt := Sl → (Bool → Prop) → (Value → Prop) → Prop
abbrev Wa := Sl → (List Cel → Prop) → (Value → Prop) → Prop
abbrev Wl := Sl → (List D → Prop) → (Value → Prop) → Prop

section
variable (K : PySem.W.Frag) (L : Lw) (W : WX)
/-- what a raise within an expression is wished to reach -/
def Exw (b : Beg) (F : Hp) (s : Sl) (σ : L2.St) (R : Value → Prop) : Prop := ∀ cls F' H', Rel K L b F' s σ H' → Same F F' → R cls → W cls none σ H'
def Snd (t : TE) (w : We) : Prop := ∀ (b : Beg) (F : Hp) (s : Sl) (σ : L2.St) (H : Hp) (Q : D → Prop) (R : Value → Prop) (k : VK), Rel K L b F s σ H → w s Q R → Exw K L W b F s σ R →
  (∀ F' d v H', Rel K L b F' s σ H' → Same F F' → Kp b H H' → Dt K F' v d → Q d → k v H') → t σ H k
def SndT (t : TT) (w : Wt) : Prop := ∀ (b : Beg) (F : Hp) (s : Sl) (σ : L2.St) (H : Hp) (Q : Bool → Prop) (R : Value → Prop) (k : Bool → Hp → Prop), Rel K L b F s σ H → w s Q R → Exw K L W b F s σ R →
  (∀ F' c H', Rel K L b F' s σ H' → Same F F' → Kp b H H' → Q c → k c H') → t σ H k
/-- an argument: a datum, or the draws -/
def ArgOk (b : Beg) (F : Hp) (v : V) : Cel → Prop
  | .fz d => Dt K F v d
  | .dr => ∃ a, v = .ref a ∧ b.dr = some a
  | _ => False
def ArgsOk (b : Beg) (F : Hp) : List V → List Cel → Prop
  | [], [] => True
  | v :: vs, c :: cs => ArgOk K b F v c ∧ ArgsOk b F vs cs
  | [], _ :: _ => False
  | _ :: _, [] => False
def SndA (t : TA) (w : Wa) : Prop := ∀ (b : Beg) (F : Hp) (s : Sl) (σ : L2.St) (H : Hp) (Q : List Cel → Prop) (R : Value → Prop) (k : List V → Hp → Prop), Rel K L b F s σ H → w s Q R → Exw K L W b F s σ R →
  (∀ F' cs vs H', Rel K L b F' s σ H' → Same F F' → Kp b H H' → ArgsOk K b F' vs cs → Q cs → k vs H') → t σ H k
/-- told whole, or a list of the def's own whose items are told -/
def DpB (b : Beg) (F H : Hp) (v : V) (d : D) : Prop := Dt K F v d ∨ ∃ a vs ds, v = .ref a ∧ d = .list ds ∧ b.dr ≠ some a ∧ H a = some (.lst vs) ∧ DtAll K F vs ds
def SndB (t : TE) (w : We) : Prop := ∀ (b : Beg) (F : Hp) (s : Sl) (σ : L2.St) (H : Hp) (Q : D → Prop) (R : Value → Prop) (k : VK), Rel K L b F s σ H → w s Q R → Exw K L W b F s σ R →
  (∀ F' d v H', Rel K L b F' s σ H' → Same F F' → Kp b H H' → DpB K b F' H' v d → Q d → k v H') → t σ H k
/-- a new list, nobody's so far -/
structure Fresh (b : Beg) (F : Hp) (s : Sl) (σ : L2.St) (p : Addr) : Prop where
  h0 : b.H0 p = none
  hd : b.dr ≠ some p
  hf : F p = none
  hn : ∀ (i : Nat), isOw s[i]? → σ[i]? ≠ some (some (.ref p))
def SndN (t : TE) (w : Wl) : Prop := ∀ (b : Beg) (F : Hp) (s : Sl) (σ : L2.St) (H : Hp) (Q : List D → Prop) (R : Value → Prop) (k : VK), Rel K L b F s σ H → w s Q R → Exw K L W b F s σ R →
  (∀ F' ds p vs H', Rel K L b F' s σ H' → Same F F' → Kp b H H' → Fresh b F' s σ p → H' p = some (.lst vs) → DtAll K F' vs ds → Q ds → k (.ref p) H') → t σ H k
/-- what is walked, turn by turn, while it is told in F; P: what must hold of the slots -/
def WalkD (b : Beg) (F : Hp) (P : Sl → L2.St → Prop) (J : It) (ds : List D) : Prop := ∀ F1 s1 σ1 H1, Rel K L b F1 s1 σ1 H1 → Same F F1 → P s1 σ1 →
  (∀ i, i < ds.length → J.go i H1) ∧ J.stop ds.length H1 ∧ ∀ i x H', i < ds.length → J.yld i H1 x H' → ∃ F2 d, ds[i]? = some d ∧ Rel K L b F2 s1 σ1 H' ∧ Same F1 F2 ∧ Kp b H1 H' ∧ Dt K F2 x d
def SndI (wi : TI) (w : Wl) : Prop := ∀ (b : Beg) (F : Hp) (s : Sl) (σ : L2.St) (H : Hp) (Q : List D → Prop) (R : Value → Prop) (k : It → Hp → Prop), Rel K L b F s σ H → w s Q R → Exw K L W b F s σ R →
  (∀ F' ds J H', Rel K L b F' s σ H' → Same F F' → Kp b H H' → WalkD K L b F' (fun _ _ => True) J ds → Q ds → k J H') → wi σ H k
abbrev Wg := D → Sl → (Sl → Prop) → Prop
def SndG (g : TG) (w : Wg) : Prop := ∀ (b : Beg) (F : Hp) (s : Sl) (σ : L2.St) (H : Hp) (v : V) (d : D) (Q : Sl → Prop) (k : L2.St → Hp → Prop), Rel K L b F s σ H → Dt K F v d → w d s Q →
  (∀ F' s' σ' H', Rel K L b F' s' σ' H' → Same F F' → Q s' → k σ' H') → g v σ H k
def SndGs (g : TGs) (w : List D → Sl → (Sl → Prop) → Prop) : Prop := ∀ (b : Beg) (F : Hp) (s : Sl) (σ : L2.St) (H : Hp) (vs : List V) (ds : List D) (Q : Sl → Prop) (k : L2.St → Hp → Prop), Rel K L b F s σ H → DtAll K F vs ds → w ds s Q →
  (∀ F' s' σ' H', Rel K L b F' s' σ' H' → Same F F' → Q s' → k σ' H') → g vs σ H k
structure En where
  nx : Sl → Prop
  rt : D → Prop
  ex : Value → Prop
  bk : Sl → Prop := fun _ => False
  ct : Sl → Prop := fun _ => False
  rn : List D → Prop := fun _ => False
abbrev Ws := Sl → En → Prop
structure EnOk (b : Beg) (F : Hp) (E : En) (D' : Ends) : Prop where
  nx : ∀ F' s' σ' H', Rel K L b F' s' σ' H' → Same F F' → E.nx s' → D'.nx σ' H'
  rt : ∀ F' s' σ' H' v d, Rel K L b F' s' σ' H' → Same F F' → Dt K F' v d → E.rt d → D'.rt v H'
  bk : ∀ F' s' σ' H', Rel K L b F' s' σ' H' → Same F F' → E.bk s' → D'.bk σ' H'
  ct : ∀ F' s' σ' H', Rel K L b F' s' σ' H' → Same F F' → E.ct s' → D'.ct σ' H'
  ex : ∀ cls F' s' σ' H', Rel K L b F' s' σ' H' → Same F F' → E.ex cls → W cls none σ' H'
  rn : ∀ F' s' σ' H' p vs ds, Rel K L b F' s' σ' H' → Same F F' → Fresh b F' s' σ' p → H' p = some (.lst vs) → DtAll K F' vs ds → E.rn ds → D'.rt (.ref p) H'
def SndS (t : TS) (w : Ws) : Prop := ∀ (b : Beg) (F : Hp) (s : Sl) (σ : L2.St) (H : Hp) (E : En) (D' : Ends), Rel K L b F s σ H → w s E → EnOk K L W b F E D' → t D' σ H
end

section
variable (X : Cx) (L : Lw) (W : WX)
structure FE (e : Expr) (t : TE) (w : We) : Prop where
  pe : PE X e t
  snd : Snd X.K L W t w
structure FT (e : Expr) (t : TT) (w : Wt) : Prop where
  pe : PT X e t
  snd : SndT X.K L W t w
structure FW (e : Expr) (t : TT) (w : Wt) : Prop where
  pe : PW X e t
  snd : SndT X.K L W t w
structure FA (es : List Expr) (t : TA) (w : Wa) : Prop where
  pe : PA X es t
  snd : SndA X.K L W t w
structure FB (e : Expr) (t : TE) (w : We) : Prop where
  pe : PE X e t
  snd : SndB X.K L W t w
structure FN (e : Expr) (t : TE) (w : Wl) : Prop where
  pe : PE X e t
  snd : SndN X.K L W t w
structure FI (tg iter : Expr) (t : TI) (w : Wl) : Prop where
  pe : PI X tg iter t
  snd : SndI X.K L W t w
structure FG (tg : Expr) (g : TG) (w : Wg) : Prop where
  pe : PG X tg g
  snd : SndG X.K L g w
structure FGs (tgs : List Expr) (g : TGs) (w : List D → Sl → (Sl → Prop) → Prop) : Prop where
  pe : PGs X tgs g
  snd : SndGs X.K L g w
structure FS (st : Stmt) (t : TS) (w : Ws) : Prop where
  pe : PS X st t
  snd : SndS X.K L W t w
structure FSs (sts : List Stmt) (t : TS) (w : Ws) : Prop where
  pe : PSs X sts t
  snd : SndS X.K L W t w
end

section
variable {X : Cx} {L : Lw} {W : WX} {pos : Pos}
theorem same_trans {F F1 F2 : Hp} (a : Same F F1) (b : Same F1 F2) : Same F F2 := a.trans b
theorem Exw.mono {K : PySem.W.Frag} {b : Beg} {F F' : Hp} {s : Sl} {σ : L2.St} {R : Value → Prop} (x : Exw K L W b F s σ R) (m : Same F F') : Exw K L W b F' s σ R := fun cls F1 H1 I m1 q => x cls F1 H1 I (m.trans m1) q

/-! ### names, constants -/
def wVar (i : Nat) : We := fun s Q _ => match s[i]? with
  | some (.fz d) => Q d
  | _ => False
theorem fe_var (i : Nat) {x : Str} (hN : X.N[i]? = some x := by rfl) (hv : Vis X.env.scope x := by first | exact Or.inl rfl | exact Or.inr (Or.inl rfl) | exact Or.inr (Or.inr rfl)) (hd : (x == ("__debug__" : Str)) = false := by decide)
    (hcd : (x == ("__classdict__" : Str)) = false := by decide) : FE X L W (.Name x pos) (tVar i) (wVar i) := by
  refine ⟨pv i hN hv hd hcd, fun b F s σ H Q R k I h hx kk => ?_⟩
  unfold wVar at h
  split at h
  · rename_i d e
    obtain ⟨v, e1, h1⟩ := I.slot i _ e
    refine ⟨v, ?_, kk F d v H I (Same.refl F) Kp.refl h1 h⟩
    rw [List.getD_eq_getElem?_getD] at e1
    cases q : σ[i]? with
    | none => rw [q] at e1; cases e1
    | some u => rw [q] at e1; exact congrArg some e1
  · exact h.elim
/-- a slot whose list may still grow, only looked at -/
def wVarB (i : Nat) : We := fun s Q _ => match s[i]? with
  | some (.fz d) => Q d
  | some (.ow ds) => Q (.list ds)
  | _ => False
theorem fb_var (i : Nat) {x : Str} (hN : X.N[i]? = some x := by rfl) (hv : Vis X.env.scope x := by first | exact Or.inl rfl | exact Or.inr (Or.inl rfl) | exact Or.inr (Or.inr rfl)) (hd : (x == ("__debug__" : Str)) = false := by decide)
    (hcd : (x == ("__classdict__" : Str)) = false := by decide) : FB X L W (.Name x pos) (tVar i) (wVarB i) := by
  refine ⟨pv i hN hv hd hcd, fun b F s σ H Q R k I h hx kk => ?_⟩
  have out : ∀ {v : V}, σ.getD i none = some v → σ[i]? = some (some v) := fun {v} e1 => by
    rw [List.getD_eq_getElem?_getD] at e1
    cases q : σ[i]? with
    | none => rw [q] at e1; cases e1
    | some u => rw [q] at e1; exact congrArg some e1
  unfold wVarB at h
  split at h
  · rename_i d e
    obtain ⟨v, e1, h1⟩ := I.slot i _ e
    exact ⟨v, out e1, kk F d v H I (Same.refl F) Kp.refl (.inl h1) h⟩
  · rename_i ds e
    obtain ⟨a, vs, e1, h1, h2, h3, h4, h5⟩ := I.slot i _ e
    exact ⟨_, out e1, kk F _ _ H I (Same.refl F) Kp.refl (.inr ⟨a, vs, ds, rfl, rfl, h2, h4, h5⟩) h⟩
  · exact h.elim
theorem fb_fe {e : Expr} {t : TE} {w : We} (h : FE X L W e t w) : FB X L W e t w :=
  ⟨h.pe, fun b F s σ H Q R k I q hx kk => h.snd b F s σ H Q R k I q hx fun F' d v H' I' sm kp r => kk F' d v H' I' sm kp (.inl r)⟩
def wC (d : D) : We := fun _ Q _ => Q d
theorem snd_c {v : V} {d : D} (h : ∀ F, Dt X.K F v d) : Snd X.K L W (tC v) (wC d) := fun b F s σ H Q R k I q hx kk => kk F d v H I (Same.refl F) Kp.refl (h F) q
theorem fe_int {i : Int} {j : Nat} : FE X L W (.Constant (.int i) j pos) (tC (.int i)) (wC (.int i)) := ⟨pe_int, snd_c fun _ => .int i⟩
theorem fe_bl {i : Bool} {j : Nat} : FE X L W (.Constant (.bool i) j pos) (tC (.bl i)) (wC (.bool i)) := ⟨pe_bl, snd_c fun _ => .bl i⟩
theorem fe_non {j : Nat} : FE X L W (.Constant .none j pos) (tC .non) (wC .none) := ⟨pe_non, snd_c fun _ => .non⟩
theorem fe_str {x : Str} {j : Nat} : FE X L W (.Constant (.str x) j pos) (tC (.str x)) (wC (.str x)) := ⟨pe_str, snd_c fun _ => .str x⟩
/-- a constant of the module's top -/
theorem fe_glob {x : Str} {v : V} {u : Value} {d : D} (hg : Gl X x) (hm : X.mg x = some u) (r : RelV v u) (hp : Dt X.K (fun _ => none) v d) (hd : (x == ("__debug__" : Str)) = false := by decide) : FE X L W (.Name x pos) (tC v) (wC d) :=
  ⟨pe_glob hg hm r hd, snd_c fun F => dp_mono (fun _ _ z => by cases z) hp⟩

/-! ### operators by data -/
structure OpD (X : Cx) (L : Lw) (f : Value → Value → Sem Value) (r : R2) (w : D → D → (D → Prop) → Prop) : Prop where
  op : OpR X f r
  snd : ∀ (b : Beg) (F : Hp) (s : Sl) (σ : L2.St) (H : Hp) (x y : V) (d e : D) (Q : D → Prop) (k : VK), Rel X.K L b F s σ H → Dt X.K F x d → Dt X.K F y e → w d e Q →
    (∀ F' c v H', Rel X.K L b F' s σ H' → Same F F' → Kp b H H' → Dt X.K F' v c → Q c → k v H') → r x y H k
def wOp (w : D → D → (D → Prop) → Prop) (wa wb : We) : We := fun s Q R => wa s (fun x => wb s (fun y => w x y Q) R) R
theorem fe_op {op : Operator} {r : R2} {w : D → D → (D → Prop) → Prop} {a c : Expr} {ta tb : TE} {wa wb : We} (o : OpD X L (binaryOp op) r w) (ha : FE X L W a ta wa) (hb : FE X L W c tb wb) : FE X L W (.BinOp a op c pos) (tOp r ta tb) (wOp w wa wb) := by
  refine ⟨pe_op o.op ha.pe hb.pe, fun b F s σ H Q R k I h hx kk => ?_⟩
  refine ha.snd b F s σ H _ R _ I h hx fun F1 d1 v1 H1 I1 m1 k1 r1 h1 => ?_
  refine hb.snd b F1 s σ H1 _ R _ I1 h1 (hx.mono m1) fun F2 d2 v2 H2 I2 m2 k2 r2 h2 => ?_
  exact o.snd b F2 s σ H2 v1 v2 d1 d2 Q k I2 (dp_mono m2 r1) r2 h2 fun F3 c v H3 I3 m3 k3 r3 q => kk F3 c v H3 I3 (m1.trans (m2.trans m3)) (k1.trans (k2.trans k3)) r3 q
def dI (C : Int → Int → Prop) (g : Int → Int → Int) : D → D → (D → Prop) → Prop := fun d e Q => match d, e with
  | .int i, .int j => C i j ∧ Q (.int (g i j))
  | _, _ => False
def dI0 (g : Int → Int → Int) : D → D → (D → Prop) → Prop := fun d e Q => match d, e with
  | .int i, .int j => Q (.int (g i j))
  | _, _ => False
theorem opd_I {f : Value → Value → Sem Value} {C : Int → Int → Prop} {g : Int → Int → Int} (h : OpR X f (rI C fun i j => .int (g i j))) : OpD X L f (rI C fun i j => .int (g i j)) (dI C g) := by
  refine ⟨h, fun b F s σ H x y d e Q k I hx hy q kk => ?_⟩
  unfold dI at q
  split at q
  · cases hx; cases hy
    exact ⟨_, _, rfl, rfl, q.1, kk F _ _ H I (Same.refl F) Kp.refl (.int _) q.2⟩
  · exact q.elim
theorem opd_I0 {f : Value → Value → Sem Value} {g : Int → Int → Int} (h : OpR X f (rI0 fun i j => .int (g i j))) : OpD X L f (rI0 fun i j => .int (g i j)) (dI0 g) := by
  refine ⟨h, fun b F s σ H x y d e Q k I hx hy q kk => ?_⟩
  unfold dI0 at q
  split at q
  · cases hx; cases hy
    exact ⟨_, _, rfl, rfl, kk F _ _ H I (Same.refl F) Kp.refl (.int _) q⟩
  · exact q.elim
/-- + -/
def rCatL (K : PySem.W.Frag) : R2 := fun x y H Q => ∃ l b xs zs, x = .ref l ∧ y = .ref b ∧ SqL K H l xs ∧ SqL K H b zs ∧ xs.length + zs.length ≤ sizeLine ∧ ∀ p, H p = none → Q (.ref p) (upd H p (.lst (xs ++ zs)))
theorem op_catL : OpR X (binaryOp .Add) (rCatL X.K) := by
  intro pins s σ H x y v u Q I rx ry h
  obtain ⟨l, b, xs, zs, rfl, rfl, hH, hB, hz, q⟩ := h
  cases rx
  cases ry
  obtain ⟨its, r, ⟨⟨c1, d1, t1, s1⟩, n, ho, hc, hdn, hd⟩, z⟩ := I.list hH
  obtain ⟨its2, r2, ⟨⟨c2, d2, t2, s2⟩, n2, ho2, hc2, hdn2, hd2⟩, z2⟩ := I.list hB
  have l1 := r.length
  have l2 := r2.length
  simp only at hc hd hdn hc2 hd2 hdn2
  subst hc hd hdn hc2 hd2 hdn2
  refine concat_meets ⟨_, ho, rfl⟩ ⟨_, ho2, rfl⟩ noFill_list_add seq_list_add PySem.F.slot_list_add PySem.F.entry_list_add (PySem.F.args_list_add_2 _ _) (list_addW l b its.toArray its2.toArray n n2 _ _ s1 s2 (by rw [List.size_toArray, List.size_toArray]; omega)) ⟨ho, ho2, ?_⟩
  have ea : its.toArray ++ its2.toArray = (its ++ its2).toArray := by simp
  rw [ea]
  exact ⟨.ref _, _, I.lnew (t' := s.toks) (r.append r2) (by rw [List.length_append]; omega), rfl, q _ I.fresh⟩
end
end FL

/-! FL3: operators, comparisons, tests, subscripts, displays. -/
namespace FL
open PySem PySem.Spec PyProof.Rows L2
section
variable {X : Cx} {L : Lw} {W : WX} {pos : Pos} {a c : Expr} {ta tb : TE} {wa wb : We}

/-! ### + - * // % ** << >> ^ & -/
def dAdd : D → D → (D → Prop) → Prop := fun d e Q => match d, e with
  | .int i, .int j => Q (.int (i + j))
  | .str x, .str y => x.length + y.length ≤ sizeLine ∧ Q (.str (x ++ y))
  | .tuple xs, .tuple ys => xs.length + ys.length ≤ sizeLine ∧ Q (.tuple (xs ++ ys))
  | .list xs, .list ys => xs.length + ys.length ≤ sizeLine ∧ Q (.list (xs ++ ys))
  | _, _ => False
abbrev rStrAdd : R2 := fun x y H Q => ∃ i j, x = .str i ∧ y = .str j ∧ i.length + j.length ≤ sizeLine ∧ Q (.str (i ++ j)) H
abbrev rAddA (K : PySem.W.Frag) : R2 := fun x y H Q => rI0 (fun i j => .int (i + j)) x y H Q ∨ (rStrAdd x y H Q ∨ (rCatA K x y H Q ∨ rCatL K x y H Q))
theorem opd_add : OpD X L (binaryOp .Add) (rAddA X.K) dAdd := by
  refine ⟨op_add.or (op_add_str.or (op_catA.or op_catL)), fun b F s σ H x y d e Q k I hx hy q kk => ?_⟩
  unfold dAdd at q
  split at q
  · cases hx; cases hy
    exact .inl ⟨_, _, rfl, rfl, kk F _ _ H I (Same.refl F) Kp.refl (.int _) q⟩
  · cases hx; cases hy
    exact .inr (.inl ⟨_, _, rfl, rfl, q.1, kk F _ _ H I (Same.refl F) Kp.refl (.str _) q.2⟩)
  · rename_i xs ys
    cases hx with
    | tup h1 h2 =>
      cases hy with
      | tup h3 h4 =>
        have l1 := dps_len h2
        have l2 := dps_len h4
        refine .inr (.inr (.inl ⟨_, _, _, _, rfl, rfl, same_sqT I.sub h1, same_sqT I.sub h3, by omega, fun e => ?_, fun e1 e2 => ?_, fun e1 e2 p hp => ?_⟩))
        · subst e
          have z : xs = [] := List.eq_nil_of_length_eq_zero l1.symm
          subst z
          exact kk F _ _ H I (Same.refl F) Kp.refl (.tup h3 h4) q.2
        · subst e2
          have z : ys = [] := List.eq_nil_of_length_eq_zero l2.symm
          subst z
          rw [List.append_nil] at q
          exact kk F _ _ H I (Same.refl F) Kp.refl (.tup h1 h2) q.2
        · have hf := I.f_none hp
          exact kk _ _ _ _ (I.new1 hp (fun ps z => by cases z)) (same_upd hf) (Kp.of (same_upd hp)) (.tup (.inl (.inl upd_same)) (dps_mono (same_upd hf) (dps_app h2 h4))) q.2
  · cases hx with
    | lst h1 h2 =>
      cases hy with
      | lst h3 h4 =>
        have l1 := dps_len h2
        have l2 := dps_len h4
        refine .inr (.inr (.inr ⟨_, _, _, _, rfl, rfl, I.sub.seq h1, I.sub.seq h3, by omega, fun p hp => ?_⟩))
        have hf := I.f_none hp
        exact kk _ _ _ _ (I.new1 hp (fun ps z => by cases z)) (same_upd hf) (Kp.of (same_upd hp)) (.lst (.inl (.inl upd_same)) (dps_mono (same_upd hf) (dps_app h2 h4))) q.2
  · exact q.elim
theorem fe_add (ha : FE X L W a ta wa) (hb : FE X L W c tb wb) : FE X L W (.BinOp a .Add c pos) (tOp (rAddA X.K) ta tb) (wOp dAdd wa wb) := fe_op opd_add ha hb
theorem fe_sub (ha : FE X L W a ta wa) (hb : FE X L W c tb wb) : FE X L W (.BinOp a .Sub c pos) (tOp (rI0 fun i j => .int ((fun i j => i - j) i j)) ta tb) (wOp (dI0 fun i j => i - j) wa wb) := fe_op (opd_I0 op_sub) ha hb
/-- the product is within the machine's bounds -/
def MulOk (i j : Int) : Prop := IntMulOk i j
theorem mul_l {i j : Int} (h1 : -(2 ^ 64) < i) (h2 : i < 2 ^ 64) : MulOk i j := CMul.ok (.inl ⟨h1, h2⟩)
theorem mul_r {i j : Int} (h1 : -(2 ^ 64) < j) (h2 : j < 2 ^ 64) : MulOk i j := CMul.ok (.inr ⟨h1, h2⟩)
theorem mul_w {i j : Int} {m n : Nat} (h1 : i.natAbs < 2 ^ m) (h2 : j.natAbs < 2 ^ n) (h : 0 < m ∧ 0 < n ∧ m + n ≤ 1000000) : MulOk i j := CMulW.ok (wide_mul h1 h2 h.1 h.2.1 h.2.2)
theorem op_mulA : OpR X (binaryOp .Mult) (rI MulOk fun i j => .int (i * j)) := opI fun _ _ _ _ _ _ _ hc q => mul_int q hc
theorem fe_mul (ha : FE X L W a ta wa) (hb : FE X L W c tb wb) : FE X L W (.BinOp a .Mult c pos) (tOp (rI MulOk fun i j => .int ((fun i j => i * j) i j)) ta tb) (wOp (dI MulOk fun i j => i * j) wa wb) := fe_op (opd_I op_mulA) ha hb
/-- a divisor within the machine's bounds -/
def DivOk (j : Int) : Prop := j.natAbs.log2 < 9000
theorem div_s {j : Int} (h1 : -(2 ^ 64) < j) (h2 : j < 2 ^ 64) : DivOk j := by
  unfold DivOk
  have h3 : j.natAbs < 2 ^ 65 := by omega
  exact Nat.lt_trans (PySem.Flt.log2_lt_of (by decide : 0 < 65) h3) (by decide)
theorem div_w {j : Int} {m : Nat} (h : j.natAbs < 2 ^ m) (h2 : 0 < m ∧ m ≤ 9000) : DivOk j := Nat.lt_of_lt_of_le (PySem.Flt.log2_lt_of h2.1 h) h2.2
theorem op_fdivP : OpR X (binaryOp .FloorDiv) (rI (fun _ j => 0 < j ∧ DivOk j) fun i j => .int (i / j)) := opI fun i j _ _ _ _ _ hc q => by
  have h1 : (0 : Int) < j := hc.1
  exact floordiv_int (by omega) (by rw [Int.fdiv_eq_ediv_of_nonneg i (by omega)]; exact q) (.inl (PyProof.noPylong_of_log2 hc.2))
theorem op_fdivA : OpR X (binaryOp .FloorDiv) (rI (fun _ j => j ≠ 0 ∧ DivOk j) fun i j => .int (i.fdiv j)) := opI fun i j _ _ _ _ _ hc q =>
  floordiv_int hc.1 q (.inl (PyProof.noPylong_of_log2 hc.2))
theorem fe_div (ha : FE X L W a ta wa) (hb : FE X L W c tb wb) : FE X L W (.BinOp a .FloorDiv c pos) (tOp (rI (fun _ j => 0 < j ∧ DivOk j) fun i j => .int ((fun i j => i / j) i j)) ta tb) (wOp (dI (fun _ j => 0 < j ∧ DivOk j) fun i j => i / j) wa wb) := fe_op (opd_I op_fdivP) ha hb
theorem fe_divN (ha : FE X L W a ta wa) (hb : FE X L W c tb wb) : FE X L W (.BinOp a .FloorDiv c pos) (tOp (rI (fun _ j => j ≠ 0 ∧ DivOk j) fun i j => .int ((fun i j => i.fdiv j) i j)) ta tb) (wOp (dI (fun _ j => j ≠ 0 ∧ DivOk j) fun i j => i.fdiv j) wa wb) := fe_op (opd_I op_fdivA) ha hb
theorem fe_mod (ha : FE X L W a ta wa) (hb : FE X L W c tb wb) : FE X L W (.BinOp a .Mod c pos) (tOp (rI (fun _ j => 0 < j) fun i j => .int ((fun i j => i % j) i j)) ta tb) (wOp (dI (fun _ j => 0 < j) fun i j => i % j) wa wb) := fe_op (opd_I op_mod) ha hb
theorem fe_modN (ha : FE X L W a ta wa) (hb : FE X L W c tb wb) : FE X L W (.BinOp a .Mod c pos) (tOp (rI (fun _ j => j ≠ 0) fun i j => .int ((fun i j => i.fmod j) i j)) ta tb) (wOp (dI (fun _ j => j ≠ 0) fun i j => i.fmod j) wa wb) := fe_op (opd_I op_modN) ha hb
theorem fe_pow (ha : FE X L W a ta wa) (hb : FE X L W c tb wb) : FE X L W (.BinOp a .Pow c pos) (tOp (rI CPow fun i j => .int ((fun i j => i ^ j.toNat) i j)) ta tb) (wOp (dI CPow fun i j => i ^ j.toNat) wa wb) := fe_op (opd_I op_pow) ha hb
theorem fe_shl (ha : FE X L W a ta wa) (hb : FE X L W c tb wb) : FE X L W (.BinOp a .LShift c pos) (tOp (rI CPow fun i j => .int ((fun i j => i * 2 ^ j.toNat) i j)) ta tb) (wOp (dI CPow fun i j => i * 2 ^ j.toNat) wa wb) := fe_op (opd_I op_shl) ha hb
theorem fe_shr (ha : FE X L W a ta wa) (hb : FE X L W c tb wb) : FE X L W (.BinOp a .RShift c pos) (tOp (rI (fun _ j => 0 ≤ j) fun i j => .int ((fun i j => i / 2 ^ j.toNat) i j)) ta tb) (wOp (dI (fun _ j => 0 ≤ j) fun i j => i / 2 ^ j.toNat) wa wb) := fe_op (opd_I op_shr) ha hb
theorem fe_xor (ha : FE X L W a ta wa) (hb : FE X L W c tb wb) : FE X L W (.BinOp a .BitXor c pos) (tOp (rI0 fun i j => .int ((Builtin.bitXor) i j)) ta tb) (wOp (dI0 Builtin.bitXor) wa wb) := fe_op (opd_I0 op_xor) ha hb
theorem fe_and (ha : FE X L W a ta wa) (hb : FE X L W c tb wb) : FE X L W (.BinOp a .BitAnd c pos) (tOp (rI0 fun i j => .int ((Builtin.bitAnd) i j)) ta tb) (wOp (dI0 Builtin.bitAnd) wa wb) := fe_op (opd_I0 op_and) ha hb
def wNeg (wa : We) : We := fun s Q R => wa s (fun d => match d with | .int i => Q (.int (-i)) | _ => False) R
theorem fe_neg (ha : FE X L W a ta wa) : FE X L W (.UnaryOp .USub a pos) (tUn (rU fun i => .int (-i)) ta) (wNeg wa) := by
  refine ⟨pe_un un_neg ha.pe, fun b F s σ H Q R k I h hx kk => ?_⟩
  refine ha.snd b F s σ H _ R _ I h hx fun F1 d1 v1 H1 I1 m1 k1 r1 h1 => ?_
  split at h1
  · cases r1
    exact ⟨_, rfl, kk F1 _ _ H1 I1 m1 k1 (.int _) h1⟩
  · exact h1.elim

/-! ### comparisons -/
/-- a comparison by data: two operands told or looked at -/
structure CmD (X : Cx) (L : Lw) (op : CmpOp) (r : R2) (w : D → D → (Bool → Prop) → Prop) : Prop where
  opr : OpR X (compareOp op) r
  mrk : op ≠ .In ∧ op ≠ .NotIn
  snd : ∀ (b : Beg) (F : Hp) (s : Sl) (σ : L2.St) (H : Hp) (x y : V) (d e : D) (Q : Bool → Prop) (k : VK), Rel X.K L b F s σ H → DpB X.K b F H x d → DpB X.K b F H y e → w d e Q → (∀ c, Q c → k (.bl c) H) → r x y H k
theorem DpB.keep {K : PySem.W.Frag} {b : Beg} {F F' H H' : Hp} {v : V} {d : D} (h : DpB K b F H v d) (m : Same F F') (kp : Kp b H H') : DpB K b F' H' v d := by
  rcases h with h | ⟨a, vs, ds, e1, e2, e3, e4, e5⟩
  · exact .inl (dp_mono m h)
  · exact .inr ⟨a, vs, ds, e1, e2, e3, kp _ _ e4 e3 (fun ps z => by cases z), dps_mono m e5⟩
/-- what is looked at, over the heap as it is -/
theorem DpB.at {K : PySem.W.Frag} {b : Beg} {F H : Hp} {v : V} {d : D} (h : DpB K b F H v d) (m : Same F H) : Dt K H v d := by
  rcases h with h | ⟨a, vs, ds, rfl, rfl, e3, e4, e5⟩
  · exact dp_mono m h
  · exact .lst (.inl (.inl e4)) (dps_mono m e5)
def wCmpV (w : D → D → (Bool → Prop) → Prop) (wa wb : We) : We := fun s Q R => wa s (fun x => wb s (fun y => w x y fun z => Q (.bool z)) R) R
def wCmpT (w : D → D → (Bool → Prop) → Prop) (wa wb : We) : Wt := fun s Q R => wa s (fun x => wb s (fun y => w x y Q) R) R
theorem fe_cmp {op : CmpOp} {r : R2} {w : D → D → (Bool → Prop) → Prop} (o : CmD X L op r w) (ha : FB X L W a ta wa) (hb : FB X L W c tb wb) : FE X L W (.Compare a [op] [c] pos) (tOp r ta tb) (wCmpV w wa wb) := by
  refine ⟨pe_cmpR o.opr ha.pe hb.pe (nomark _ o.mrk.1 o.mrk.2), fun b F s σ H Q R k I h hx kk => ?_⟩
  refine ha.snd b F s σ H _ R _ I h hx fun F1 d1 v1 H1 I1 m1 k1 r1 h1 => ?_
  refine hb.snd b F1 s σ H1 _ R _ I1 h1 (hx.mono m1) fun F2 d2 v2 H2 I2 m2 k2 r2 h2 => ?_
  exact o.snd b F2 s σ H2 v1 v2 d1 d2 _ k I2 (r1.keep m2 k2) r2 h2 fun z q => kk F2 _ _ H2 I2 (m1.trans m2) (k1.trans k2) (.bl z) q
theorem ft_cmp {op : CmpOp} {r : R2} {w : D → D → (Bool → Prop) → Prop} (o : CmD X L op r w) (ha : FB X L W a ta wa) (hb : FB X L W c tb wb) : FT X L W (.Compare a [op] [c] pos) (tTest (tOp r ta tb)) (wCmpT w wa wb) := by
  refine ⟨pt_cmpR o.opr ha.pe hb.pe (nomark _ o.mrk.1 o.mrk.2), fun b F s σ H Q R k I h hx kk => ?_⟩
  refine ha.snd b F s σ H _ R _ I h hx fun F1 d1 v1 H1 I1 m1 k1 r1 h1 => ?_
  refine hb.snd b F1 s σ H1 _ R _ I1 h1 (hx.mono m1) fun F2 d2 v2 H2 I2 m2 k2 r2 h2 => ?_
  exact o.snd b F2 s σ H2 v1 v2 d1 d2 _ _ I2 (r1.keep m2 k2) r2 h2 fun z q => ⟨z, rfl, kk F2 z H2 I2 (m1.trans m2) (k1.trans k2) q⟩
/-- two scalars whose == is plain, or two that are laid as data -/
def scalD : D → D → Bool
  | .none, .none => true | .none, .int _ => true | .int _, .none => true | .none, .bool _ => true | .bool _, .none => true | .none, .str _ => true | .str _, .none => true
  | .int _, .int _ => true | .bool _, .bool _ => true | .str _, .str _ => true
  | .int _, .str _ => true | .str _, .int _ => true | .bool _, .str _ => true | .str _, .bool _ => true
  | _, _ => false
def EqOk (d e : D) : Prop := scalD d e = true ∨ (SeqAt.shaped d = true ∧ SeqAt.shaped e = true)
def dEq : D → D → (Bool → Prop) → Prop := fun d e Q => EqOk d e ∧ Q (PyData.eqv d e)
def dNe : D → D → (Bool → Prop) → Prop := fun d e Q => EqOk d e ∧ Q (!PyData.eqv d e)
abbrev rEqA (K : PySem.W.Frag) : R2 := fun x y H Q => rEq x y H Q ∨ rEqD K x y H Q
abbrev rNeA (K : PySem.W.Frag) : R2 := fun x y H Q => rNe x y H Q ∨ rNeD K x y H Q
theorem scal_eq {K : PySem.W.Frag} {H : Hp} {x y : V} {d e : D} (hx : Dt K H x d) (hy : Dt K H y e) (h : scalD d e = true) : scal x y = true ∧ decide (x = y) = PyData.eqv d e := by
  have ne : ∀ {b c : Bool}, (b == c) = decide (b = c) := fun {b c} => by cases b <;> cases c <;> rfl
  cases hx <;> cases hy <;> first
    | (refine ⟨rfl, ?_⟩; first | rfl | (rw [PyData.eqv]; first | exact dec_int | exact dec_bl | exact dec_str) | (simp only [PyData.eqv]; rfl) | (simp [PyData.eqv]))
    | (cases h)
theorem cmd_eq {k : Nat} (hr : Room k X.A) : CmD X L .Eq (rEqA X.K) dEq := by
  refine ⟨op_eq.or (op_eqD hr.units), ⟨by decide, by decide⟩, fun b F s σ H x y d e Q k I hx hy q kk => ?_⟩
  have hx' := hx.at I.sub
  have hy' := hy.at I.sub
  rcases q.1 with h | h
  · obtain ⟨h1, h2⟩ := scal_eq hx' hy' h
    exact .inl ⟨h1, by rw [h2]; exact kk _ q.2⟩
  · exact .inr ⟨d, e, dt_dp hx', dt_dp hy', h.1, h.2, kk _ q.2⟩
theorem cmd_ne {k : Nat} (hr : Room k X.A) : CmD X L .NotEq (rNeA X.K) dNe := by
  refine ⟨op_ne.or (op_neD hr.units), ⟨by decide, by decide⟩, fun b F s σ H x y d e Q k I hx hy q kk => ?_⟩
  have hx' := hx.at I.sub
  have hy' := hy.at I.sub
  rcases q.1 with h | h
  · obtain ⟨h1, h2⟩ := scal_eq hx' hy' h
    exact .inl ⟨h1, by rw [h2]; exact kk _ q.2⟩
  · exact .inr ⟨d, e, dt_dp hx', dt_dp hy', h.1, h.2, kk _ q.2⟩
def dO (p : Int → Int → Bool) : D → D → (Bool → Prop) → Prop := fun d e Q => match d, e with
  | .int i, .int j => Q (p i j)
  | _, _ => False
theorem cmd_O {op : CmpOp} {p : Int → Int → Bool} (h : OpR X (compareOp op) (rI0 fun i j => .bl (p i j))) (hm : op ≠ .In ∧ op ≠ .NotIn) : CmD X L op (rI0 fun i j => .bl (p i j)) (dO p) := by
  refine ⟨h, hm, fun b F s σ H x y d e Q k I hx hy q kk => ?_⟩
  unfold dO at q
  split at q
  · have hx' := hx.at I.sub
    have hy' := hy.at I.sub
    cases hx'; cases hy'
    exact ⟨_, _, rfl, rfl, kk _ q⟩
  · exact q.elim
theorem cmd_lt : CmD X L .Lt (rI0 fun i j => .bl (decide (i < j))) (dO fun i j => decide (i < j)) := cmd_O op_lt ⟨by decide, by decide⟩
theorem cmd_le : CmD X L .LtE (rI0 fun i j => .bl (decide (i ≤ j))) (dO fun i j => decide (i ≤ j)) := cmd_O op_le ⟨by decide, by decide⟩
theorem cmd_gt : CmD X L .Gt (rI0 fun i j => .bl (decide (j < i))) (dO fun i j => decide (j < i)) := cmd_O op_gt ⟨by decide, by decide⟩
theorem cmd_ge : CmD X L .GtE (rI0 fun i j => .bl (decide (j ≤ i))) (dO fun i j => decide (j ≤ i)) := cmd_O op_ge ⟨by decide, by decide⟩
def isNoneD : D → Bool
  | .none => true
  | _ => false
def dIsN : D → D → (Bool → Prop) → Prop := fun d e Q => match e with
  | .none => Q (isNoneD d)
  | .bool c => (match d with | .bool b => Q (decide (b = c)) | _ => False)
  | _ => False
def dNotN : D → D → (Bool → Prop) → Prop := fun d e Q => match e with
  | .none => Q (!isNoneD d)
  | .bool c => (match d with | .bool b => Q (!decide (b = c)) | _ => False)
  | _ => False
abbrev rIsA : R2 := fun x y H Q => (y = .non ∧ Q (.bl (decide (x = .non))) H) ∨ rIsB x y H Q
abbrev rNotA : R2 := fun x y H Q => (y = .non ∧ Q (.bl (!decide (x = .non))) H) ∨ rNotB x y H Q
theorem isn_dec {K : PySem.W.Frag} {H : Hp} {x : V} {d : D} (hx : Dt K H x d) : decide (x = .non) = isNoneD d := by
  cases hx <;> first | rfl | (apply decide_eq_false; intro z; cases z)
theorem cmd_is : CmD X L .Is rIsA dIsN := by
  refine ⟨op_isN.or op_isBl, ⟨by decide, by decide⟩, fun b F s σ H x y d e Q k I hx hy q kk => ?_⟩
  have hx' := hx.at I.sub
  have hy' := hy.at I.sub
  unfold dIsN at q
  split at q
  · cases hy'
    exact .inl ⟨rfl, by rw [isn_dec hx']; exact kk _ q⟩
  · split at q
    · cases hx'; cases hy'
      exact .inr ⟨_, _, rfl, rfl, kk _ q⟩
    · exact q.elim
  · exact q.elim
theorem cmd_isnot : CmD X L .IsNot rNotA dNotN := by
  refine ⟨op_notN.or op_notBl, ⟨by decide, by decide⟩, fun b F s σ H x y d e Q k I hx hy q kk => ?_⟩
  have hx' := hx.at I.sub
  have hy' := hy.at I.sub
  unfold dNotN at q
  split at q
  · cases hy'
    refine .inl ⟨rfl, ?_⟩
    rw [isn_dec hx']
    exact kk _ q
  · split at q
    · cases hx'; cases hy'
      exact .inr ⟨_, _, rfl, rfl, kk _ q⟩
    · exact q.elim
  · exact q.elim
end
end FL

/-! FL4: tests, subscripts, displays, calls. -/
namespace FL
open PySem PySem.Spec PyProof.Rows L2
section
variable {X : Cx} {L : Lw} {W : WX} {pos : Pos} {a c e : Expr} {ta tb tc te : TE} {wa wb wc we : We} {tA tB' : TT} {vA vB : Wt} {rest : List Expr}

/-! ### tests -/
def wAndT (va vb : Wt) : Wt := fun s Q R => va s (fun c => cond c (vb s Q R) (Q false)) R
def wOrT (va vb : Wt) : Wt := fun s Q R => va s (fun c => cond c (Q true) (vb s Q R)) R
def wNotT (va : Wt) : Wt := fun s Q R => va s (fun c => Q (!c)) R
theorem ft_w (h : FW X L W e tA vA) : FT X L W e tA vA := ⟨h.pe.pt, h.snd⟩
theorem fw_and1 (h : FT X L W a tA vA) : FW X L W (.BoolOp .And [a] pos) tA vA := ⟨pw_and1 h.pe, h.snd⟩
theorem fw_or1 (h : FT X L W a tA vA) : FW X L W (.BoolOp .Or [a] pos) tA vA := ⟨pw_or1 h.pe, h.snd⟩
theorem fw_and (ha : FT X L W a tA vA) (hb : FW X L W (.BoolOp .And (c :: rest) pos) tB' vB) : FW X L W (.BoolOp .And (a :: c :: rest) pos) (tAnd tA tB') (wAndT vA vB) := by
  refine ⟨pw_and ha.pe hb.pe, fun b F s σ H Q R k I h hx kk => ?_⟩
  refine ha.snd b F s σ H _ R _ I h hx fun F1 z H1 I1 m1 k1 h1 => ?_
  cases z with
  | true =>
    rw [if_pos rfl]
    exact hb.snd b F1 s σ H1 Q R k I1 h1 (hx.mono m1) fun F2 z2 H2 I2 m2 k2 q => kk F2 z2 H2 I2 (m1.trans m2) (k1.trans k2) q
  | false =>
    rw [if_neg Bool.false_ne_true]
    exact kk F1 false H1 I1 m1 k1 h1
theorem fw_or (ha : FT X L W a tA vA) (hb : FW X L W (.BoolOp .Or (c :: rest) pos) tB' vB) : FW X L W (.BoolOp .Or (a :: c :: rest) pos) (tOr tA tB') (wOrT vA vB) := by
  refine ⟨pw_or ha.pe hb.pe, fun b F s σ H Q R k I h hx kk => ?_⟩
  refine ha.snd b F s σ H _ R _ I h hx fun F1 z H1 I1 m1 k1 h1 => ?_
  cases z with
  | true =>
    rw [if_pos rfl]
    exact kk F1 true H1 I1 m1 k1 h1
  | false =>
    rw [if_neg Bool.false_ne_true]
    exact hb.snd b F1 s σ H1 Q R k I1 h1 (hx.mono m1) fun F2 z2 H2 I2 m2 k2 q => kk F2 z2 H2 I2 (m1.trans m2) (k1.trans k2) q
theorem ft_not (ha : FT X L W a tA vA) : FT X L W (.UnaryOp .Not a pos) (tNot tA) (wNotT vA) := by
  refine ⟨pt_not ha.pe, fun b F s σ H Q R k I h hx kk => ?_⟩
  exact ha.snd b F s σ H _ R _ I h hx fun F1 z H1 I1 m1 k1 h1 => kk F1 (!z) H1 I1 m1 k1 h1
/-- truth by data -/
def truOk : D → Prop
  | .str x => x.length ≤ sizeLine
  | .dict _ => False
  | _ => True
def truD : D → Bool
  | .none => false
  | .bool b => b
  | .int i => i != 0
  | .str x => (x.length : Int) != 0
  | .list xs => !xs.isEmpty
  | .tuple xs => !xs.isEmpty
  | .dict _ => false
theorem emp_len {vs : List V} {ds : List D} (h : vs.length = ds.length) : (!vs.isEmpty) = !ds.isEmpty := by
  cases vs <;> cases ds <;> first | rfl | simp at h
theorem tru_of {K : PySem.W.Frag} {H : Hp} {x : V} {d : D} (hx : Dt K H x d) (h : truOk d) : TruV K x H (truD d) := by
  cases hx with
  | non => rfl
  | bl b => rfl
  | int i => rfl
  | str x => exact ⟨h, rfl⟩
  | lst h1 h2 => exact .inl ⟨_, h1, (emp_len (dps_len h2)).symm⟩
  | tup h1 h2 => exact .inr (.inl ⟨_, h1, (emp_len (dps_len h2)).symm⟩)
def wTruT (wa : We) : Wt := fun s Q R => wa s (fun d => truOk d ∧ Q (truD d)) R
theorem ft_truth (ha : FB X L W a ta wa) (he : ∀ whole, isTrue a X.env whole = (do let v ← whole; standAt a.pos; holding [v] (truthy v)) := by intro _; rfl) : FT X L W a (fun σ H Q => ta σ H fun x H' => ∃ k, TruV X.K x H' k ∧ Q k H') (wTruT wa) := by
  refine ⟨pt_truth ha.pe he, fun b F s σ H Q R k I h hx kk => ?_⟩
  exact ha.snd b F s σ H _ R _ I h hx fun F1 d v H1 I1 m1 k1 r1 h1 => ⟨_, tru_of (r1.at I1.sub) h1.1, kk F1 _ H1 I1 m1 k1 h1.2⟩
def wNotV (wa : We) : We := fun s Q R => wa s (fun d => truOk d ∧ Q (.bool (!truD d))) R
theorem fe_not (ha : FB X L W a ta wa) : FE X L W (.UnaryOp .Not a pos) (tNotT X.K ta) (wNotV wa) := by
  refine ⟨pe_notT ha.pe, fun b F s σ H Q R k I h hx kk => ?_⟩
  exact ha.snd b F s σ H _ R _ I h hx fun F1 d v H1 I1 m1 k1 r1 h1 => ⟨_, tru_of (r1.at I1.sub) h1.1, kk F1 _ _ H1 I1 m1 k1 (.bl _) h1.2⟩
/-- and, or as values: the first by its truth -/
def wAndV (wa wb : We) : We := fun s Q R => wa s (fun d => truOk d ∧ cond (truD d) (wb s Q R) (Q d)) R
def wOrV (wa wb : We) : We := fun s Q R => wa s (fun d => truOk d ∧ cond (truD d) (Q d) (wb s Q R)) R
theorem fe_one {op : BoolOp} (ha : FE X L W a ta wa) : FE X L W (.BoolOp op [a] pos) ta wa := ⟨pe_one ha.pe, ha.snd⟩
theorem fe_andV (ha : FE X L W a ta wa) (hb : FE X L W (.BoolOp .And (c :: rest) pos) tb wb) : FE X L W (.BoolOp .And (a :: c :: rest) pos) (tAndT X.K ta tb) (wAndV wa wb) := by
  refine ⟨pe_andT ha.pe hb.pe, fun b F s σ H Q R k I h hx kk => ?_⟩
  refine ha.snd b F s σ H _ R _ I h hx fun F1 d v H1 I1 m1 k1 r1 h1 => ⟨truD d, tru_of (dp_mono I1.sub r1) h1.1, ?_⟩
  cases z : truD d with
  | true =>
    rw [if_pos rfl]
    exact hb.snd b F1 s σ H1 Q R k I1 (by have := h1.2; rw [z] at this; exact this) (hx.mono m1) fun F2 d2 v2 H2 I2 m2 k2 r2 q => kk F2 d2 v2 H2 I2 (m1.trans m2) (k1.trans k2) r2 q
  | false =>
    rw [if_neg Bool.false_ne_true]
    exact kk F1 d v H1 I1 m1 k1 r1 (by have := h1.2; rw [z] at this; exact this)
theorem fe_orV (ha : FE X L W a ta wa) (hb : FE X L W (.BoolOp .Or (c :: rest) pos) tb wb) : FE X L W (.BoolOp .Or (a :: c :: rest) pos) (tOrT X.K ta tb) (wOrV wa wb) := by
  refine ⟨pe_orT ha.pe hb.pe, fun b F s σ H Q R k I h hx kk => ?_⟩
  refine ha.snd b F s σ H _ R _ I h hx fun F1 d v H1 I1 m1 k1 r1 h1 => ⟨truD d, tru_of (dp_mono I1.sub r1) h1.1, ?_⟩
  cases z : truD d with
  | true =>
    rw [if_pos rfl]
    exact kk F1 d v H1 I1 m1 k1 r1 (by have := h1.2; rw [z] at this; exact this)
  | false =>
    rw [if_neg Bool.false_ne_true]
    exact hb.snd b F1 s σ H1 Q R k I1 (by have := h1.2; rw [z] at this; exact this) (hx.mono m1) fun F2 d2 v2 H2 I2 m2 k2 r2 q => kk F2 d2 v2 H2 I2 (m1.trans m2) (k1.trans k2) r2 q
def wIf (vt : Wt) (wa wb : We) : We := fun s Q R => vt s (fun c => cond c (wa s Q R) (wb s Q R)) R
theorem fe_if (ht : FT X L W e tA vA) (ha : FE X L W a ta wa) (hb : FE X L W c tb wb) : FE X L W (.IfExp e a c pos) (tIf tA ta tb) (wIf vA wa wb) := by
  refine ⟨pe_ifExp ht.pe ha.pe hb.pe, fun b F s σ H Q R k I h hx kk => ?_⟩
  refine ht.snd b F s σ H _ R _ I h hx fun F1 z H1 I1 m1 k1 h1 => ?_
  cases z with
  | true =>
    rw [if_pos rfl]
    exact ha.snd b F1 s σ H1 Q R k I1 h1 (hx.mono m1) fun F2 d2 v2 H2 I2 m2 k2 r2 q => kk F2 d2 v2 H2 I2 (m1.trans m2) (k1.trans k2) r2 q
  | false =>
    rw [if_neg Bool.false_ne_true]
    exact hb.snd b F1 s σ H1 Q R k I1 h1 (hx.mono m1) fun F2 d2 v2 H2 I2 m2 k2 r2 q => kk F2 d2 v2 H2 I2 (m1.trans m2) (k1.trans k2) r2 q
/-- a op1 b op2 c -/
def wChain (w w' : D → D → (Bool → Prop) → Prop) (wa wb wc : We) : Wt := fun s Q R => wa s (fun x => wb s (fun y => w x y fun c1 => cond c1 (wc s (fun z => w' y z Q) R) (Q false)) R) R
theorem snd_chain {op op' : CmpOp} {r r' : R2} {w w' : D → D → (Bool → Prop) → Prop} (o : CmD X L op r w) (o' : CmD X L op' r' w') (ha : FE X L W a ta wa) (hb : FE X L W c tb wb) (hc : FE X L W e tc wc)
    (b : Beg) (F : Hp) (s : Sl) (σ : L2.St) (H : Hp) (Q : Bool → Prop) (R : Value → Prop) (k : Bool → Hp → Prop) (I : Rel X.K L b F s σ H) (h : wChain w w' wa wb wc s Q R) (hx : Exw X.K L W b F s σ R)
    (kk : ∀ F' z H', Rel X.K L b F' s σ H' → Same F F' → Kp b H H' → Q z → k z H') : tChain r r' ta tb tc σ H fun x H' => ∃ z, x = .bl z ∧ k z H' := by
  refine ha.snd b F s σ H _ R _ I h hx fun F1 d1 v1 H1 I1 m1 k1 r1 h1 => ?_
  refine hb.snd b F1 s σ H1 _ R _ I1 h1 (hx.mono m1) fun F2 d2 v2 H2 I2 m2 k2 r2 h2 => ?_
  refine o.snd b F2 s σ H2 v1 v2 d1 d2 _ _ I2 (.inl (dp_mono m2 r1)) (.inl r2) h2 fun z q => ⟨z, rfl, ?_⟩
  cases z with
  | true =>
    rw [if_pos rfl]
    refine hc.snd b F2 s σ H2 _ R _ I2 q (hx.mono (m1.trans m2)) fun F3 d3 v3 H3 I3 m3 k3 r3 h3 => ?_
    exact o'.snd b F3 s σ H3 v2 v3 d2 d3 _ _ I3 (.inl (dp_mono m3 r2)) (.inl r3) h3 fun z q => ⟨z, rfl, kk F3 z H3 I3 (m1.trans (m2.trans m3)) (k1.trans (k2.trans k3)) q⟩
  | false =>
    rw [if_neg Bool.false_ne_true]
    exact ⟨false, rfl, kk F2 false H2 I2 (m1.trans m2) (k1.trans k2) q⟩
theorem ft_chain {op op' : CmpOp} {r r' : R2} {w w' : D → D → (Bool → Prop) → Prop} (o : CmD X L op r w) (o' : CmD X L op' r' w') (ha : FE X L W a ta wa) (hb : FE X L W c tb wb) (hc : FE X L W e tc wc)
    (hm : lastMarks [op, op'] [c, e] = false := by with_unfolding_all rfl) : FT X L W (.Compare a [op, op'] [c, e] pos) (tTest (tChain r r' ta tb tc)) (wChain w w' wa wb wc) :=
  ⟨pt_chain o.opr o'.opr ha.pe hb.pe hc.pe hm, fun b F s σ H Q R k I h hx kk => snd_chain o o' ha hb hc b F s σ H Q R k I h hx kk⟩
def wBoolV (v : Wt) : We := fun s Q R => v s (fun z => Q (.bool z)) R
theorem fe_chain {op op' : CmpOp} {r r' : R2} {w w' : D → D → (Bool → Prop) → Prop} (o : CmD X L op r w) (o' : CmD X L op' r' w') (ha : FE X L W a ta wa) (hb : FE X L W c tb wb) (hc : FE X L W e tc wc)
    (hm : lastMarks [op, op'] [c, e] = false := by with_unfolding_all rfl) : FE X L W (.Compare a [op, op'] [c, e] pos) (tChain r r' ta tb tc) (wBoolV (wChain w w' wa wb wc)) := by
  refine ⟨pe_chain o.opr o'.opr ha.pe hb.pe hc.pe hm, fun b F s σ H Q R k I h hx kk => ?_⟩
  refine ha.snd b F s σ H _ R _ I h hx fun F1 d1 v1 H1 I1 m1 k1 r1 h1 => ?_
  refine hb.snd b F1 s σ H1 _ R _ I1 h1 (hx.mono m1) fun F2 d2 v2 H2 I2 m2 k2 r2 h2 => ?_
  refine o.snd b F2 s σ H2 v1 v2 d1 d2 _ _ I2 (.inl (dp_mono m2 r1)) (.inl r2) h2 fun z q => ⟨z, rfl, ?_⟩
  cases z with
  | true =>
    rw [if_pos rfl]
    refine hc.snd b F2 s σ H2 _ R _ I2 q (hx.mono (m1.trans m2)) fun F3 d3 v3 H3 I3 m3 k3 r3 h3 => ?_
    exact o'.snd b F3 s σ H3 v2 v3 d2 d3 _ _ I3 (.inl (dp_mono m3 r2)) (.inl r3) h3 fun z q => kk F3 _ _ H3 I3 (m1.trans (m2.trans m3)) (k1.trans (k2.trans k3)) (.bl z) q
  | false =>
    rw [if_neg Bool.false_ne_true]
    exact kk F2 _ _ H2 I2 (m1.trans m2) (k1.trans k2) (.bl false) q

/-! ### a[i] -/
/-- the place of the item i -/
def wIx (wa wb : We) : We := fun s Q R => wa s (fun x => wb s (fun y => match x, y with
  | .list ds, .int i => ∃ d, atI ds i = some d ∧ Q d
  | .tuple ds, .int i => ∃ d, atI ds i = some d ∧ Q d
  | .str z, .int i => z.length ≤ sizeLine ∧ ∃ n, atI z.cps.toList i = some n ∧ Q (.str ⟨#[n]⟩)
  | _, _ => False) R) R
theorem atI_dps {K : PySem.W.Frag} {F : Hp} {vs : List V} {ds : List D} {i : Int} {d : D} (h : DtAll K F vs ds) (e : atI ds i = some d) : ∃ v, atI vs i = some v ∧ Dt K F v d := by
  unfold atI at e ⊢
  rw [dps_len h]
  cases q : ixN ds.length i with
  | none => rw [q] at e; cases e
  | some j =>
    rw [q] at e
    exact dps_get h e
theorem fe_ix (ha : FB X L W a ta wa) (hb : FE X L W c tb wb) (hs : PlainIx c := by intro _ _; rfl) : FE X L W (.Subscript a c pos) (tOp (rIx X.K) ta tb) (wIx wa wb) := by
  refine ⟨pe_ix ix_seq ha.pe hb.pe hs, fun b F s σ H Q R k I h hx kk => ?_⟩
  refine ha.snd b F s σ H _ R _ I h hx fun F1 d1 v1 H1 I1 m1 k1 r1 h1 => ?_
  refine hb.snd b F1 s σ H1 _ R _ I1 h1 (hx.mono m1) fun F2 d2 v2 H2 I2 m2 k2 r2 h2 => ?_
  have r1' := r1.keep m2 k2
  split at h2
  · cases r2
    obtain ⟨d, e1, q⟩ := h2
    rcases r1' with r1' | ⟨x, vs, ds', rfl, e2, e3, e4, e5⟩
    · cases r1' with
      | lst h3 h4 =>
        obtain ⟨v, e5, e6⟩ := atI_dps h4 e1
        exact .inl ⟨_, _, _, v, rfl, rfl, I2.sub.seq h3, e5, kk F2 d v H2 I2 (m1.trans m2) (k1.trans k2) e6 q⟩
    · cases e2
      obtain ⟨v, e6, e7⟩ := atI_dps e5 e1
      exact .inl ⟨_, _, _, v, rfl, rfl, .inl (.inl e4), e6, kk F2 d v H2 I2 (m1.trans m2) (k1.trans k2) e7 q⟩
  · cases r2
    obtain ⟨d, e1, q⟩ := h2
    rcases r1' with r1' | ⟨x, vs, ds', rfl, e2, e3, e4, e5⟩
    · cases r1' with
      | tup h3 h4 =>
        obtain ⟨v, e5, e6⟩ := atI_dps h4 e1
        exact .inr (.inl ⟨_, _, _, v, rfl, rfl, same_sqT I2.sub h3, e5, kk F2 d v H2 I2 (m1.trans m2) (k1.trans k2) e6 q⟩)
    · cases e2
  · cases r2
    obtain ⟨hl, n, e1, q⟩ := h2
    rcases r1' with r1' | ⟨x, vs, ds', rfl, e2, e3, e4, e5⟩
    · cases r1'
      exact .inr (.inr ⟨_, _, n, rfl, rfl, hl, e1, kk F2 _ _ H2 I2 (m1.trans m2) (k1.trans k2) (.str _) q⟩)
    · cases e2
  · exact h2.elim

/-! ### items from the left -/
structure FLs (X : Cx) (L : Lw) (W : WX) (es : List Expr) (t : TA) (w : Wl) : Prop where
  pe : PA X es t
  snd : ∀ (b : Beg) (F : Hp) (s : Sl) (σ : L2.St) (H : Hp) (Q : List D → Prop) (R : Value → Prop) (k : List V → Hp → Prop), Rel X.K L b F s σ H → w s Q R → Exw X.K L W b F s σ R →
    (∀ F' ds vs H', Rel X.K L b F' s σ H' → Same F F' → Kp b H H' → DtAll X.K F' vs ds → Q ds → k vs H') → t σ H k
def wNil : Wl := fun _ Q _ => Q []
def wCons (wa : We) (wr : Wl) : Wl := fun s Q R => wa s (fun x => wr s (fun xs => Q (x :: xs)) R) R
variable {es : List Expr} {t : TA} {wl : Wl}
theorem fl_nil : FLs X L W [] tNil wNil := ⟨pa_nil, fun b F s σ H Q R k I h hx kk => kk F [] [] H I (Same.refl F) Kp.refl .nil h⟩
theorem fl_cons (ha : FE X L W a ta wa) (hr : FLs X L W es t wl) (hs : starEach (a :: es) X.env = (false, eval a X.env) :: starEach es X.env := by rfl) : FLs X L W (a :: es) (tCons ta t) (wCons wa wl) := by
  refine ⟨pa_cons ha.pe hr.pe hs, fun b F s σ H Q R k I h hx kk => ?_⟩
  refine ha.snd b F s σ H _ R _ I h hx fun F1 d1 v1 H1 I1 m1 k1 r1 h1 => ?_
  exact hr.snd b F1 s σ H1 _ R _ I1 h1 (hx.mono m1) fun F2 ds vs H2 I2 m2 k2 r2 h2 => kk F2 _ _ H2 I2 (m1.trans m2) (k1.trans k2) (.cons (dp_mono m2 r1) r2) h2
def wTup (wl : Wl) : We := fun s Q R => wl s (fun ds => ds.length ≤ sizeLine ∧ Q (.tuple ds)) R
theorem fe_tup {k : Nat} (h : FLs X L W es t wl) : FE X L W (.Tuple es k pos) (tTup t) (wTup wl) := by
  refine ⟨pe_tup h.pe, fun b F s σ H Q R k I q hx kk => ?_⟩
  refine h.snd b F s σ H _ R _ I q hx fun F1 ds vs H1 I1 m1 k1 r1 h1 => ⟨by rw [dps_len r1]; exact h1.1, fun p hp => ?_⟩
  have hf := I1.f_none hp
  exact kk _ _ _ _ (I1.new1 hp (fun ps z => by cases z)) (m1.trans (same_upd hf)) (k1.trans (Kp.of (same_upd hp))) (.tup (.inl (.inl upd_same)) (dps_mono (same_upd hf) r1)) h1.2
def wLst (wl : Wl) : Wl := fun s Q R => wl s (fun ds => ds.length ≤ sizeLine ∧ Q ds) R
theorem fn_lst (h : FLs X L W es t wl) : FN X L W (.List es pos) (tLst t) (wLst wl) := by
  refine ⟨pe_lst h.pe, fun b F s σ H Q R k I q hx kk => ?_⟩
  refine h.snd b F s σ H _ R _ I q hx fun F1 ds vs H1 I1 m1 k1 r1 h1 => ⟨by rw [dps_len r1]; exact h1.1, fun p hp => ?_⟩
  exact kk F1 ds p vs _ (I1.lay hp) m1 (k1.trans (Kp.of (same_upd hp))) ⟨I1.live p hp, I1.dr_some hp, I1.f_none hp, fun i z => I1.ow_some hp i z⟩ upd_same r1 h1.2
/-- a new list as a datum -/
def wN (wl : Wl) : We := fun s Q R => wl s (fun ds => Q (.list ds)) R
theorem fe_n (h : FN X L W e te wl) : FE X L W e te (wN wl) := by
  refine ⟨h.pe, fun b F s σ H Q R k I q hx kk => ?_⟩
  refine h.snd b F s σ H _ R _ I q hx fun F1 ds p vs H1 I1 m1 k1 fr e1 r1 h1 => ?_
  exact kk _ _ _ _ (I1.tell fr.h0 fr.hd e1 fr.hf (fun ps z => by cases z) fr.hn) (m1.trans (same_upd fr.hf)) k1 (.lst (.inl (.inl upd_same)) (dps_mono (same_upd fr.hf) r1)) h1
/-- a new list, only looked at -/
theorem fb_n (h : FN X L W e te wl) : FB X L W e te (wN wl) := fb_fe (fe_n h)
end
end FL

/-! FL5: calls, defs, statements, loops. -/
namespace FL
open PySem PySem.Spec PyProof.Rows L2
section
variable {X : Cx} {L : Lw} {W : WX} {pos p : Pos} {a c e : Expr} {ta tb tc te : TE} {wa wb wc we : We} {tA tB' : TT} {vA vB : Wt} {rest es : List Expr} {t : TA} {wl : Wl} {v : Wa}

/-! ### arguments -/
theorem ArgOk.mono {K : PySem.W.Frag} {b : Beg} {F F' : Hp} {v : V} {c : Cel} (m : Same F F') (h : ArgOk K b F v c) : ArgOk K b F' v c := by
  cases c with
  | fz d => exact dp_mono m h
  | dr => exact h
  | no => exact h
  | ow ds => exact h
theorem ArgsOk.mono {K : PySem.W.Frag} {b : Beg} {F F' : Hp} (m : Same F F') : ∀ {vs : List V} {cs : List Cel}, ArgsOk K b F vs cs → ArgsOk K b F' vs cs
  | [], [], h => h
  | _ :: _, _ :: _, h => ⟨h.1.mono m, ArgsOk.mono m h.2⟩
  | [], _ :: _, h => h.elim
  | _ :: _, [], h => h.elim
theorem ArgsOk.len {K : PySem.W.Frag} {b : Beg} {F : Hp} : ∀ {vs : List V} {cs : List Cel}, ArgsOk K b F vs cs → vs.length = cs.length
  | [], [], _ => rfl
  | _ :: _, _ :: _, h => by simp [ArgsOk.len h.2]
  | [], _ :: _, h => h.elim
  | _ :: _, [], h => h.elim
def wANil : Wa := fun _ Q _ => Q []
def wACons (wa : We) (wr : Wa) : Wa := fun s Q R => wa s (fun x => wr s (fun xs => Q (.fz x :: xs)) R) R
def wADr (i : Nat) (wr : Wa) : Wa := fun s Q R => match s[i]? with
  | some .dr => wr s (fun xs => Q (.dr :: xs)) R
  | _ => False
theorem fa_nil : FA X L W [] tNil wANil := ⟨pa_nil, fun b F s σ H Q R k I h hx kk => kk F [] [] H I (Same.refl F) Kp.refl trivial h⟩
theorem fa_cons (ha : FE X L W a ta wa) (hr : FA X L W es t v) (hs : starEach (a :: es) X.env = (false, eval a X.env) :: starEach es X.env := by rfl) : FA X L W (a :: es) (tCons ta t) (wACons wa v) := by
  refine ⟨pa_cons ha.pe hr.pe hs, fun b F s σ H Q R k I h hx kk => ?_⟩
  refine ha.snd b F s σ H _ R _ I h hx fun F1 d1 v1 H1 I1 m1 k1 r1 h1 => ?_
  exact hr.snd b F1 s σ H1 _ R _ I1 h1 (hx.mono m1) fun F2 ds vs H2 I2 m2 k2 r2 h2 => kk F2 (.fz d1 :: ds) _ H2 I2 (m1.trans m2) (k1.trans k2) ⟨dp_mono m2 r1, r2⟩ h2
theorem fa_dr (i : Nat) {x : Str} (hr : FA X L W es t v) (hN : X.N[i]? = some x := by rfl) (hv : Vis X.env.scope x := by first | exact Or.inl rfl | exact Or.inr (Or.inl rfl) | exact Or.inr (Or.inr rfl)) (hd : (x == ("__debug__" : Str)) = false := by decide)
    (hcd : (x == ("__classdict__" : Str)) = false := by decide) (hs : starEach (.Name x pos :: es) X.env = (false, eval (.Name x pos) X.env) :: starEach es X.env := by rfl) : FA X L W (.Name x pos :: es) (tCons (tVar i) t) (wADr i v) := by
  refine ⟨pa_cons (pv i hN hv hd hcd) hr.pe hs, fun b F s σ H Q R k I h hx kk => ?_⟩
  unfold wADr at h
  split at h
  · rename_i e
    obtain ⟨p, e1, e2⟩ := I.slot i _ e
    have e3 : σ[i]? = some (some (.ref p)) := by
      rw [List.getD_eq_getElem?_getD] at e1
      cases q : σ[i]? with
      | none => rw [q] at e1; cases e1
      | some u => rw [q] at e1; exact congrArg some e1
    refine ⟨_, e3, ?_⟩
    exact hr.snd b F s σ H _ R _ I h hx fun F2 ds vs H2 I2 m2 k2 r2 h2 => kk F2 (.dr :: ds) _ H2 I2 m2 k2 ⟨⟨p, rfl, e2⟩, r2⟩ h2
  · exact h.elim

/-! ### a def's promise by data -/
abbrev Fs := List Cel → (D → Prop) → (Value → Prop) → Prop
def Spf (K : PySem.W.Frag) (L : Lw) (w : Fs) : Sp := fun vs H Q E => ∃ (b : Beg) (F : Hp) (cs : List Cel) (q : D → Prop) (r : Value → Prop), Grd K L b F H ∧ ArgsOk K b F vs cs ∧ w cs q r ∧
  (∀ F' v d H', Grd K L b F' H' → Same F F' → Dt K F' v d → q d → Q v H') ∧ ∀ cls F' H', Grd K L b F' H' → Same F F' → r cls → E cls none H'
section
variable {K : PySem.W.Frag} {b : Beg} {F F' : Hp} {s : Sl} {σ : L2.St} {H H' : Hp}
theorem Grd.enter (I : Grd K L b F H) : Grd K L ⟨H, F, b.dr⟩ F H :=
  ⟨I.sub, Same.refl F, fun _ _ h => .inl h, Kp.refl, fun _ h => h, I.drw, I.tab, I.ntb⟩
theorem Grd.back (I : Grd K L b F H) (g : Grd K L ⟨H, F, b.dr⟩ F' H') : Grd K L b F' H' where
  sub := g.sub
  old := I.old.trans g.old
  new := fun a o h => by
    rcases g.new a o h with h | h
    · exact I.new a o h
    · exact .inr (I.live a h)
  keep := I.keep.trans g.keep
  live := fun a h => I.live a (g.live a h)
  drw := g.drw
  tab := g.tab
  ntb := g.ntb
theorem Rel.back (I : Rel K L b F s σ H) (g : Grd K L ⟨H, F, b.dr⟩ F' H') : Rel K L b F' s σ H' :=
  { I.toGrd.back g with
    len := I.len
    slot := fun i c e => (I.slot i c e).mono g.old (fun a h1 h2 => by
      cases q : F' a with
      | none => rfl
      | some o =>
        rcases g.new a o q with h | h
        · rw [show F a = some o from h] at h1; cases h1
        · exact absurd h h2) g.keep
    apart := I.apart }
end
def wCall (w : Fs) (v : Wa) : We := fun s Q R => v s (fun cs => w cs Q R) R
theorem ArgsOk.at {K : PySem.W.Frag} {b : Beg} {F H : Hp} : ∀ {vs : List V} {cs : List Cel}, ArgsOk K b F vs cs → ArgsOk K ⟨H, F, b.dr⟩ F vs cs
  | [], [], h => trivial
  | _ :: _, c :: _, h => ⟨by cases c <;> exact h.1, ArgsOk.at h.2⟩
  | [], _ :: _, h => h.elim
  | _ :: _, [], h => h.elim
theorem fe_call {x : Str} {k : Nat} {f : Addr} {fd : FuncData} {ps : List Str} {w : Fs} (G : FnOk X.prog X.w X.K X.mg X.base (L2.CX X.prog X.w) k f fd ps (Spf X.K L w)) (hr : Room k X.A) (tk : Takes X W) (hg : Gl X x) (hm : X.mg x = some (.ref f)) (hk : PySem.W.keepIn X.K (.ref f) = true) (hb : Binds X.K fd ps [])
    (ha : FA X L W (e :: es) t v) (hdb : (x == ("__debug__" : Str)) = false := by decide) (he : starEach (e :: es) X.env = (false, eval e X.env) :: starEach es X.env := by rfl) (hpl : (backTo pos (starEach es X.env)).any (·.1) = false := by rfl) :
    FE X L W (.Call (.Name x p) (e :: es) [] pos) (tCallS (Spf X.K L w) (fun σ cls d H => W cls d σ H) t) (wCall w v) := by
  refine ⟨pe_callS G hr hg hm hk hb (E := fun σ cls d H => W cls d σ H) (fun σ => passAt tk σ) ha.pe hdb he hpl, fun b F s σ H Q R k I h hx kk => ?_⟩
  refine ha.snd b F s σ H _ R _ I h hx fun F1 cs vs H1 I1 m1 k1 r1 h1 => ⟨⟨H1, F1, b.dr⟩, F1, cs, Q, R, I1.toGrd.enter, r1.at, h1, fun F' v d H' g m r q => ?_, fun cls F' H' g m q => ?_⟩
  · exact kk F' d v H' (I1.back g) (m1.trans m) (k1.trans g.keep) r q
  · exact hx cls F' H' (I1.back g) (m1.trans m) q

/-! ### a def's body -/
def startS (n : Nat) (cs : List Cel) : Sl := cs ++ List.replicate (n - cs.length) .no
theorem rel_start {K : PySem.W.Frag} {b : Beg} {F H : Hp} {N : List Str} {vs : List V} {cs : List Cel} (g : Grd K L b F H) (h : ArgsOk K b F vs cs) : Rel K L b F (startS N.length cs) (L2.start N vs) H := by
  have hl := h.len
  have notow : ∀ {vs : List V} {cs : List Cel}, ArgsOk K b F vs cs → ∀ (i : Nat) ds, cs[i]? ≠ some (.ow ds) := by
    intro vs cs
    induction cs generalizing vs with
    | nil => intro _ i ds z; simp at z
    | cons c cs ih =>
      intro h i ds z
      cases vs with
      | nil => exact h.elim
      | cons v vs =>
        cases i with
        | zero => simp at z; subst z; exact h.1
        | succ i => exact ih h.2 i ds (by simpa using z)
  have at_ : ∀ {vs : List V} {cs : List Cel}, ArgsOk K b F vs cs → ∀ (i : Nat) c, cs[i]? = some c → ∃ v, vs[i]? = some v ∧ ArgOk K b F v c := by
    intro vs cs
    induction cs generalizing vs with
    | nil => intro _ i c z; simp at z
    | cons c cs ih =>
      intro h i c' z
      cases vs with
      | nil => exact h.elim
      | cons v vs =>
        cases i with
        | zero => simp at z; subst z; exact ⟨v, rfl, h.1⟩
        | succ i =>
          obtain ⟨v', e, q⟩ := ih h.2 i c' (by simpa using z)
          exact ⟨v', by simpa using e, q⟩
  have noOw : ∀ (i : Nat), ¬ isOw (startS N.length cs)[i]? := fun i z => by
    unfold startS at z
    by_cases hi : i < cs.length
    · rw [List.getElem?_append_left hi] at z
      cases e : cs[i]? with
      | none => rw [e] at z; exact z
      | some c =>
        rw [e] at z
        cases c with
        | ow ds => exact notow h i ds e
        | _ => exact z
    · rw [List.getElem?_append_right (by omega), List.getElem?_replicate] at z
      split at z <;> exact z
  refine { g with len := ?_, slot := fun i c e => ?_, apart := fun i j a _ h1 => (noOw i h1).elim }
  · unfold startS L2.start
    simp [hl]
  · unfold startS at e
    by_cases hi : i < cs.length
    · rw [List.getElem?_append_left hi] at e
      obtain ⟨v, e1, q⟩ := at_ h i c e
      have e2 : (L2.start N vs).getD i none = some v := by
        unfold L2.start
        rw [List.getD_eq_getElem?_getD, List.getElem?_append_left (by simp; omega), List.getElem?_map, e1]
        rfl
      rw [e2]
      cases c with
      | no => trivial
      | fz d => exact ⟨v, rfl, q⟩
      | ow ds => exact q.elim
      | dr =>
        obtain ⟨a, e3, e4⟩ := q
        exact ⟨a, by rw [e3], e4⟩
    · rw [List.getElem?_append_right (by omega), List.getElem?_replicate] at e
      split at e
      · cases e; trivial
      · cases e
/-- a def by its body: from the body's derivation and its reading -/
theorem fn_flat {P : Program} {w : World} {K : PySem.W.Frag} {mg : Str → Option Value} {base : Heap} {x qual : Str} {st : Stmt} {f : Addr} {fd : FuncData} {N ps : List Str} {k : Nat} {sp : Fs} (Fn : Fun K x qual st f fd) (S : FnScope N ps (defScope st)) (len : ∀ cs q r, sp cs q r → cs.length = ps.length)
    (hbody : ∀ (cdv : Value) (A : Around) (outer : List Env) (s : Shared) (H : Hp) (E : XK), Room k (A.deeper (envOfC qual (defScope st) s.heap.objs.size f cdv)) →
      Takes (cxOf (L2.CX P w) P w K mg base N qual (defScope st) f cdv A outer s H E) (fun cls d _ H => E cls d H) →
      PassesOwn (model P w) (cxOf (L2.CX P w) P w K mg base N qual (defScope st) f cdv A outer s H E).A (cxOf (L2.CX P w) P w K mg base N qual (defScope st) f cdv A outer s H E).env (cxOf (L2.CX P w) P w K mg base N qual (defScope st) f cdv A outer s H E).xe →
      ∃ t ws, FSs (cxOf (L2.CX P w) P w K mg base N qual (defScope st) f cdv A outer s H E) L (fun cls d _ H => E cls d H) (defBody st) t ws ∧ ∀ cs q r, sp cs q r → ws (startS N.length cs) { nx := fun _ => q .none, rt := q, ex := r }) :
    FnOk P w K mg base (L2.CX P w) (k + 1) f fd ps (Spf K L sp) := by
  refine Fn.okX S (fun vs H Q E h => ?_) (fun cdv A outer s H vs Q E hr h => ?_)
  · obtain ⟨b, F, cs, q, r, g, ha, hw, _⟩ := h
    rw [ha.len]
    exact len cs q r hw
  · obtain ⟨t, ws, hd, hq⟩ := hbody cdv A outer s H E hr (takes_of rfl rfl rfl rfl) (passes_of rfl)
    refine ⟨t, hd.pe, ?_⟩
    obtain ⟨b, F, cs, q, r, g, ha, hw, h1, h2⟩ := h
    refine hd.snd b F _ _ H { nx := fun _ => q .none, rt := q, ex := r } _ (rel_start g ha) (hq cs q r hw) ⟨fun F' s' σ' H' I m z => ?_, fun F' s' σ' H' v d I m r z => ?_, fun F' s' σ' H' I m z => z.elim, fun F' s' σ' H' I m z => z.elim, fun cls F' s' σ' H' I m z => ?_, fun F' s' σ' H' p vs ds I m fr e r z => z.elim⟩
    · exact h1 F' .non .none H' I.toGrd m .non z
    · exact h1 F' v d H' I.toGrd m r z
    · exact h2 cls F' H' I.toGrd m z
/-- a def that hands out a new list, nobody's so far -/
abbrev Fn := List Cel → (List D → Prop) → (Value → Prop) → Prop
def SpfN (K : PySem.W.Frag) (L : Lw) (w : Fn) : Sp := fun vs H Q E => ∃ (b : Beg) (F : Hp) (cs : List Cel) (q : List D → Prop) (r : Value → Prop), Grd K L b F H ∧ ArgsOk K b F vs cs ∧ w cs q r ∧
  (∀ F' p us ds H', Grd K L b F' H' → Same F F' → F' p = none → b.H0 p = none → b.dr ≠ some p → H' p = some (.lst us) → DtAll K F' us ds → q ds → Q (.ref p) H') ∧ ∀ cls F' H', Grd K L b F' H' → Same F F' → r cls → E cls none H'
theorem fn_flatN {P : Program} {w : World} {K : PySem.W.Frag} {mg : Str → Option Value} {base : Heap} {x qual : Str} {st : Stmt} {f : Addr} {fd : FuncData} {N ps : List Str} {k : Nat} {sp : Fn} (Fn : Fun K x qual st f fd) (S : FnScope N ps (defScope st)) (len : ∀ cs q r, sp cs q r → cs.length = ps.length)
    (hbody : ∀ (cdv : Value) (A : Around) (outer : List Env) (s : Shared) (H : Hp) (E : XK), Room k (A.deeper (envOfC qual (defScope st) s.heap.objs.size f cdv)) →
      Takes (cxOf (L2.CX P w) P w K mg base N qual (defScope st) f cdv A outer s H E) (fun cls d _ H => E cls d H) →
      PassesOwn (model P w) (cxOf (L2.CX P w) P w K mg base N qual (defScope st) f cdv A outer s H E).A (cxOf (L2.CX P w) P w K mg base N qual (defScope st) f cdv A outer s H E).env (cxOf (L2.CX P w) P w K mg base N qual (defScope st) f cdv A outer s H E).xe →
      ∃ t ws, FSs (cxOf (L2.CX P w) P w K mg base N qual (defScope st) f cdv A outer s H E) L (fun cls d _ H => E cls d H) (defBody st) t ws ∧ ∀ cs q r, sp cs q r → ws (startS N.length cs) { nx := fun _ => False, rt := fun _ => False, ex := r, rn := q }) :
    FnOk P w K mg base (L2.CX P w) (k + 1) f fd ps (SpfN K L sp) := by
  refine Fn.okX S (fun vs H Q E h => ?_) (fun cdv A outer s H vs Q E hr h => ?_)
  · obtain ⟨b, F, cs, q, r, g, ha, hw, _⟩ := h
    rw [ha.len]
    exact len cs q r hw
  · obtain ⟨t, ws, hd, hq⟩ := hbody cdv A outer s H E hr (takes_of rfl rfl rfl rfl) (passes_of rfl)
    refine ⟨t, hd.pe, ?_⟩
    obtain ⟨b, F, cs, q, r, g, ha, hw, h1, h2⟩ := h
    refine hd.snd b F _ _ H { nx := fun _ => False, rt := fun _ => False, ex := r, rn := q } _ (rel_start g ha) (hq cs q r hw) ⟨fun F' s' σ' H' I m z => z.elim, fun F' s' σ' H' v d I m r z => z.elim, fun F' s' σ' H' I m z => z.elim, fun F' s' σ' H' I m z => z.elim, fun cls F' s' σ' H' I m z => ?_, fun F' s' σ' H' p vs ds I m fr e r z => ?_⟩
    · exact h2 cls F' H' I.toGrd m z
    · exact h1 F' p vs ds H' I.toGrd m fr.hf fr.h0 fr.hd e r z
def wCallN (w : FL.Fn) (v : Wa) : Wl := fun s Q R => v s (fun cs => w cs Q R) R
theorem fn_call {x : Str} {k : Nat} {f : Addr} {fd : FuncData} {ps : List Str} {w : FL.Fn} (G : FnOk X.prog X.w X.K X.mg X.base (L2.CX X.prog X.w) k f fd ps (SpfN X.K L w)) (hr : Room k X.A) (tk : Takes X W) (hg : Gl X x) (hm : X.mg x = some (.ref f)) (hk : PySem.W.keepIn X.K (.ref f) = true) (hb : Binds X.K fd ps [])
    (ha : FA X L W (e :: es) t v) (hdb : (x == ("__debug__" : Str)) = false := by decide) (he : starEach (e :: es) X.env = (false, eval e X.env) :: starEach es X.env := by rfl) (hpl : (backTo pos (starEach es X.env)).any (·.1) = false := by rfl) :
    FN X L W (.Call (.Name x p) (e :: es) [] pos) (tCallS (SpfN X.K L w) (fun σ cls d H => W cls d σ H) t) (wCallN w v) := by
  refine ⟨pe_callS G hr hg hm hk hb (E := fun σ cls d H => W cls d σ H) (fun σ => passAt tk σ) ha.pe hdb he hpl, fun b F s σ H Q R k I h hx kk => ?_⟩
  refine ha.snd b F s σ H _ R _ I h hx fun F1 cs vs H1 I1 m1 k1 r1 h1 => ⟨⟨H1, F1, b.dr⟩, F1, cs, Q, R, I1.toGrd.enter, r1.at, h1, fun F' p us ds H' g m hf h0 hd e r q => ?_, fun cls F' H' g m q => ?_⟩
  · have I2 := I1.back g
    exact kk F' ds p us H' I2 (m1.trans m) (k1.trans g.keep) ⟨I1.live p h0, hd, hf, fun i z => I1.ow_some h0 i z⟩ e r q
  · exact hx cls F' H' (I1.back g) (m1.trans m) q
end
end FL

/-! FL6: statements, loops. -/
namespace FL
open PySem PySem.Spec PyProof.Rows L2
section
variable {X : Cx} {L : Lw} {W : WX} {pos p : Pos} {a c e : Expr} {ta tb tc te : TE} {wa wb wc we : We} {tA tB' : TT} {vA vB : Wt} {wl : Wl} {st : Stmt} {sts sts2 : List Stmt} {t t' : TS} {w w' : Ws}
theorem EnOk.mono {K : PySem.W.Frag} {b : Beg} {F F' : Hp} {E : En} {D' : Ends} (x : EnOk K L W b F E D') (m : Same F F') : EnOk K L W b F' E D' :=
  ⟨fun F1 s' σ' H' I m1 z => x.nx F1 s' σ' H' I (m.trans m1) z, fun F1 s' σ' H' v d I m1 r z => x.rt F1 s' σ' H' v d I (m.trans m1) r z, fun F1 s' σ' H' I m1 z => x.bk F1 s' σ' H' I (m.trans m1) z,
    fun F1 s' σ' H' I m1 z => x.ct F1 s' σ' H' I (m.trans m1) z, fun cls F1 s' σ' H' I m1 z => x.ex cls F1 s' σ' H' I (m.trans m1) z, fun F1 s' σ' H' p vs ds I m1 fr e r z => x.rn F1 s' σ' H' p vs ds I (m.trans m1) fr e r z⟩
theorem EnOk.exw {K : PySem.W.Frag} {b : Beg} {F : Hp} {E : En} {D' : Ends} (x : EnOk K L W b F E D') {s : Sl} {σ : L2.St} : Exw K L W b F s σ E.ex := fun cls F' H' I m q => x.ex cls F' s σ H' I m q
/-! ### blocks -/
def wNext : Ws := fun s E => E.nx s
def wSeq (w w' : Ws) : Ws := fun s E => w s { E with nx := fun s' => w' s' E }
theorem fss_nil : FSs X L W [] tNext wNext := ⟨pss_nil, fun b F s σ H E D' I h ok => ok.nx F s σ H I (Same.refl F) h⟩
theorem fss_cons (h1 : FS X L W st t w) (h2 : FSs X L W sts t' w') : FSs X L W (st :: sts) (tSeq t t') (wSeq w w') := by
  refine ⟨pss_cons h1.pe h2.pe, fun b F s σ H E D' I h ok => ?_⟩
  exact h1.snd b F s σ H { E with nx := fun s' => w' s' E } { D' with nx := t' D' } I h
    ⟨fun F1 s' σ' H' I1 m1 z => h2.snd b F1 s' σ' H' E D' I1 z (ok.mono m1), ok.rt, ok.bk, ok.ct, ok.ex, ok.rn⟩
theorem fss_one (h1 : FS X L W st t w) : FSs X L W [st] t w := ⟨pss_one h1.pe, h1.snd⟩
theorem fs_pass : FS X L W (.Pass pos) tNext wNext := ⟨ps_pass, fun b F s σ H E D' I h ok => ok.nx F s σ H I (Same.refl F) h⟩
theorem fs_break : FS X L W (.Break pos) tBreak (fun s E => E.bk s) := ⟨ps_break, fun b F s σ H E D' I h ok => ok.bk F s σ H I (Same.refl F) h⟩
theorem fs_continue : FS X L W (.Continue pos) tCont (fun s E => E.ct s) := ⟨ps_continue, fun b F s σ H E D' I h ok => ok.ct F s σ H I (Same.refl F) h⟩
def wDrop (wa : We) : Ws := fun s E => wa s (fun _ => E.nx s) E.ex
theorem fs_expr (ha : FE X L W a ta wa) (hs : swapsWith a none pos.line X.env = pure false := by rfl) : FS X L W (.Expr a pos) (tDrop ta) (wDrop wa) :=
  ⟨ps_expr ha.pe hs, fun b F s σ H E D' I h ok => ha.snd b F s σ H _ E.ex _ I h ok.exw fun F1 d v H1 I1 m1 k1 r1 q => ok.nx F1 s σ H1 I1 m1 q⟩
def wRet (wa : We) : Ws := fun s E => wa s E.rt E.ex
theorem fs_ret (ha : FE X L W a ta wa) : FS X L W (.Return (some a) pos) (tRet ta) (wRet wa) :=
  ⟨ps_ret ha.pe, fun b F s σ H E D' I h ok => ha.snd b F s σ H _ E.ex _ I h ok.exw fun F1 d v H1 I1 m1 k1 r1 q => ok.rt F1 s σ H1 v d I1 m1 r1 q⟩
theorem fs_retN : FS X L W (.Return none pos) tRetN (fun s E => E.rt .none) := ⟨ps_retN, fun b F s σ H E D' I h ok => ok.rt F s σ H .non .none I (Same.refl F) .non h⟩
/-- a new list handed out as nobody's -/
def wRetO (wl : Wl) : Ws := fun s E => wl s E.rn E.ex
theorem fs_retO (ha : FN X L W a ta wl) : FS X L W (.Return (some a) pos) (tRet ta) (wRetO wl) :=
  ⟨ps_ret ha.pe, fun b F s σ H E D' I h ok => ha.snd b F s σ H _ E.ex _ I h ok.exw fun F1 ds p vs H1 I1 m1 k1 fr e1 r1 q => ok.rn F1 s σ H1 p vs ds I1 m1 fr e1 r1 q⟩
def wIfS (v : Wt) (w w' : Ws) : Ws := fun s E => v s (fun c => cond c (w s E) (w' s E)) E.ex
theorem fs_if (ht : FT X L W e tA vA) (ha : FSs X L W sts t w) (hb : FSs X L W sts2 t' w') : FS X L W (.If e sts sts2 pos) (tIfS tA t t') (wIfS vA w w') := by
  refine ⟨ps_if ht.pe ha.pe hb.pe, fun b F s σ H E D' I h ok => ?_⟩
  refine ht.snd b F s σ H _ E.ex _ I h ok.exw fun F1 z H1 I1 m1 k1 h1 => ?_
  cases z with
  | true => rw [if_pos rfl]; exact ha.snd b F1 s σ H1 E D' I1 h1 (ok.mono m1)
  | false => rw [if_neg Bool.false_ne_true]; exact hb.snd b F1 s σ H1 E D' I1 h1 (ok.mono m1)
/-- ahead of a statement: the list of slot i is no longer to grow -/
def Sl.fix (s : Sl) (i : Nat) : Sl := match s[i]? with
  | some (.ow ds) => s.set i (.fz (.list ds))
  | _ => s
theorem Rel.fix {K : PySem.W.Frag} {b : Beg} {F : Hp} {s : Sl} {σ : L2.St} {H : Hp} (I : Rel K L b F s σ H) (i : Nat) : ∃ F', Rel K L b F' (s.fix i) σ H ∧ Same F F' := by
  unfold Sl.fix
  split
  · rename_i ds e
    obtain ⟨p, vs, e1, h0, hd, hf, hh, hs⟩ := I.slot i _ e
    have hi : i < σ.length := by rw [I.len]; exact (List.getElem?_eq_some_iff.mp e).1
    have e2 : σ[i]? = some (some (.ref p)) := by
      rw [List.getD_eq_getElem?_getD, List.getElem?_eq_getElem hi] at e1
      rw [List.getElem?_eq_getElem hi]
      exact congrArg some e1
    -- forget it, tell it, put it back
    have I1 : Rel K L b F (s.set i .no) (σ.set i (some (.ref p))) H := I.drop1
    have I2 : Rel K L b (upd F p (.lst vs)) (s.set i .no) (σ.set i (some (.ref p))) H := I1.tell h0 hd hh hf (fun ps z => by cases z) fun j z q => by
      have nj : j ≠ i := fun y => by
        subst y; rw [List.getElem?_set] at z
        split at z
        · split at z <;> exact z
        · rename_i y; exact absurd rfl y
      rw [List.getElem?_set_ne (Ne.symm nj)] at z q
      exact I.apart i j p (Ne.symm nj) (by rw [e]; trivial) z e2 q
    have I3 := I2.put (i := i) (v := .ref p) (d := .list ds) (.lst (.inl (.inl upd_same)) (dps_mono (same_upd hf) hs))
    rw [List.set_set, List.set_set] at I3
    have e3 : σ.set i (some (.ref p)) = σ := by
      apply List.ext_getElem?
      intro j
      by_cases q : j = i
      · subst q; rw [List.getElem?_set, if_pos rfl, if_pos hi, e2]
      · rw [List.getElem?_set_ne (Ne.symm q)]
    rw [e3] at I3
    exact ⟨_, I3, same_upd hf⟩
  · exact ⟨F, I, Same.refl F⟩
theorem fs_fix (i : Nat) (h : FS X L W st t w) : FS X L W st t (fun s E => w (s.fix i) E) := by
  refine ⟨h.pe, fun b F s σ H E D' I q ok => ?_⟩
  obtain ⟨F', I', m⟩ := I.fix i
  exact h.snd b F' _ σ H E D' I' q (ok.mono m)
/-! ### stores -/
def wgName (i : Nat) : Wg := fun d s Q => Q (s.set i (.fz d))
theorem snd_gname {K : PySem.W.Frag} (i : Nat) : SndG K L (gName i) (wgName i) := fun b F s σ H v d Q k I r h kk => kk F _ _ H (I.put r) (Same.refl F) h
theorem fg_name {i : Nat} {x : Str} (hN : X.N.Nodup) (hi : X.N[i]? = some x := by rfl) (hx : Loc X.env.scope x := by first | exact Or.inl rfl | exact Or.inr rfl) (hf : X.fn x = true ∨ X.env.scope.names.lookup x = some .local := by first | exact .inl rfl | exact .inr rfl | assumption) : FG X L (.Name x pos) (gName i) (wgName i) :=
  ⟨pg_name hN hi hx hf, snd_gname i⟩
def wgNil : List D → Sl → (Sl → Prop) → Prop := fun ds s Q => ds = [] ∧ Q s
def wgCons (g : Wg) (gs : List D → Sl → (Sl → Prop) → Prop) : List D → Sl → (Sl → Prop) → Prop := fun ds s Q => match ds with
  | d :: ds => g d s (fun s' => gs ds s' Q)
  | [] => False
variable {tg : Expr} {tgs : List Expr} {g : TG} {gs : TGs} {wg : Wg} {wgs : List D → Sl → (Sl → Prop) → Prop}
theorem fgs_nil : FGs X L [] gNil wgNil := ⟨pgs_nil, fun b F s σ H vs ds Q k I r h kk => by
  obtain ⟨rfl, h⟩ := h
  cases r
  exact ⟨rfl, kk F s σ H I (Same.refl F) h⟩⟩
theorem fgs_cons (h1 : FG X L tg g wg) (h2 : FGs X L tgs gs wgs) (he : (assignEach (tg :: tgs) X.env).map (·.2) = assign tg X.env :: (assignEach tgs X.env).map (·.2) := by rfl) : FGs X L (tg :: tgs) (gCons g gs) (wgCons wg wgs) := by
  refine ⟨pgs_cons h1.pe h2.pe he, fun b F s σ H vs ds Q k I r h kk => ?_⟩
  cases r with
  | nil => exact h.elim
  | cons r1 r2 => exact ⟨_, _, rfl, h1.snd b F s σ H _ _ _ _ I r1 h fun F1 s1 σ1 H1 I1 m1 q => h2.snd b F1 s1 σ1 H1 _ _ _ _ I1 (dps_mono m1 r2) q fun F2 s2 σ2 H2 I2 m2 q2 => kk F2 s2 σ2 H2 I2 (m1.trans m2) q2⟩
def wgTup (n : Nat) (wgs : List D → Sl → (Sl → Prop) → Prop) : Wg := fun d s Q => match d with
  | .tuple ds => ds.length = n ∧ wgs ds s Q
  | _ => False
theorem fg_tup {k n : Nat} (hc : X.calm = true) (h : FGs X L tgs gs wgs) (hn : (assignEach tgs X.env).length = n := by rfl) (hst : (assignEach tgs X.env).findIdx? (·.1) = none := by rfl) : FG X L (.Tuple tgs k pos) (gTup X.K n gs) (wgTup n wgs) := by
  refine ⟨pg_tup hc h.pe hn hst, fun b F s σ H v d Q k I r q kk => ?_⟩
  unfold wgTup at q
  split at q
  · cases r with
    | tup h1 h2 => exact ⟨_, _, rfl, same_sqT I.sub h1, by rw [dps_len h2]; exact q.1, h.snd b F s σ H _ _ _ _ I h2 q.2 kk⟩
  · exact q.elim
def wAsg (wa : We) (g : Wg) : Ws := fun s E => wa s (fun d => g d s E.nx) E.ex
theorem fs_asg (ha : FE X L W a ta wa) (hg : FG X L tg g wg) (hs : swapsWithSole [tg] a pos.line X.env = pure false := by rfl) (hw : swappedStores [tg] a X.env = pure none := by rfl) (h1 : (assignEach [tg] X.env).map (·.2) = [assign tg X.env] := by rfl) : FS X L W (.Assign [tg] a pos) (tAsg ta g) (wAsg wa wg) := by
  refine ⟨ps_asg ha.pe hg.pe hs hw h1, fun b F s σ H E D' I h ok => ?_⟩
  refine ha.snd b F s σ H _ E.ex _ I h ok.exw fun F1 d v H1 I1 m1 k1 r1 q => ?_
  exact hg.snd b F1 s σ H1 v d _ _ I1 r1 q fun F2 s2 σ2 H2 I2 m2 z => ok.nx F2 s2 σ2 H2 I2 (m1.trans m2) z
theorem fs_set {i : Nat} {x : Str} (hN : X.N.Nodup) (ha : FE X L W a ta wa) (hi : X.N[i]? = some x := by rfl) (hx : Loc X.env.scope x := by first | exact Or.inl rfl | exact Or.inr rfl) (hs : swapsWith a (some (.Name x p)) pos.line X.env = pure false := by rfl) (hf : X.fn x = true ∨ X.env.scope.names.lookup x = some .local := by first | exact .inl rfl | exact .inr rfl | assumption) :
    FS X L W (.Assign [.Name x p] a pos) (tAsg ta (gName i)) (wAsg wa (wgName i)) := by
  refine ⟨ps_set hN hi hx ha.pe hs hf, fun b F s σ H E D' I h ok => ?_⟩
  exact ha.snd b F s σ H _ E.ex _ I h ok.exw fun F1 d v H1 I1 m1 k1 r1 q => ok.nx F1 _ _ H1 (I1.put r1) m1 q
/-- a list of the def's own -/
def wSetO (i : Nat) (wl : Wl) : Ws := fun s E => wl s (fun ds => E.nx (s.set i (.ow ds))) E.ex
theorem fs_own {i : Nat} {x : Str} (hN : X.N.Nodup) (ha : FN X L W a ta wl) (hi : X.N[i]? = some x := by rfl) (hx : Loc X.env.scope x := by first | exact Or.inl rfl | exact Or.inr rfl) (hs : swapsWith a (some (.Name x p)) pos.line X.env = pure false := by rfl) (hf : X.fn x = true ∨ X.env.scope.names.lookup x = some .local := by first | exact .inl rfl | exact .inr rfl | assumption) :
    FS X L W (.Assign [.Name x p] a pos) (tAsg ta (gName i)) (wSetO i wl) := by
  refine ⟨ps_set hN hi hx ha.pe hs hf, fun b F s σ H E D' I h ok => ?_⟩
  exact ha.snd b F s σ H _ E.ex _ I h ok.exw fun F1 ds q vs H1 I1 m1 k1 fr e1 r1 z => ok.nx F1 _ _ H1 (I1.putO fr.h0 fr.hd fr.hf fr.hn e1 r1) m1 z
def wPar (i j : Nat) (wl : Wl) : Ws := fun s E => wl s (fun ds => match ds with
  | [d, e] => E.nx ((s.set i (.fz d)).set j (.fz e))
  | _ => False) E.ex
theorem fs_par {i j : Nat} {x y : Str} {px py pt pt2 : Pos} {kt k2 : Nat} {t : TA} (hc : X.calm = true) (hN : X.N.Nodup) (ha : FLs X L W [a, c] t wl) (hi : X.N[i]? = some x := by rfl) (hj : X.N[j]? = some y := by rfl) (hij : i ≠ j := by decide)
    (hx : X.env.scope.names.lookup x = some .local := by rfl) (hy : X.env.scope.names.lookup y = some .local := by rfl)
    (hw : swappedStores [.Tuple [.Name x px, .Name y py] kt pt] (.Tuple [a, c] k2 pt2) X.env = pure (some [x, y]) := by rfl)
    (hs : swapsWithSole [.Tuple [.Name x px, .Name y py] kt pt] (.Tuple [a, c] k2 pt2) pos.line X.env = pure false := by rfl) :
    FS X L W (.Assign [.Tuple [.Name x px, .Name y py] kt pt] (.Tuple [a, c] k2 pt2) pos) (tPar i j t) (wPar i j wl) := by
  refine ⟨ps_par hc hN hi hj hij hx hy ha.pe hw hs, fun b F s σ H E D' I h ok => ?_⟩
  refine ha.snd b F s σ H _ E.ex _ I h ok.exw fun F1 ds vs H1 I1 m1 k1 r1 q => ?_
  split at q
  · cases r1 with
    | cons h1 h2 =>
      cases h2 with
      | cons h2 h3 =>
        cases h3
        exact ⟨_, _, rfl, ok.nx F1 _ _ H1 ((I1.put h1).put h2) m1 q⟩
  · exact q.elim
def wPar3 (i j l : Nat) (wl : Wl) : Ws := fun s E => wl s (fun ds => match ds with
  | [d, e, f] => E.nx (((s.set i (.fz d)).set j (.fz e)).set l (.fz f))
  | _ => False) E.ex
theorem fs_par3 {i j l : Nat} {x y z : Str} {px py pz pt pt2 : Pos} {kt k2 : Nat} {t : TA} (hc : X.calm = true) (hN : X.N.Nodup) (ha : FLs X L W [a, c, e] t wl) (hi : X.N[i]? = some x := by rfl) (hj : X.N[j]? = some y := by rfl) (hl : X.N[l]? = some z := by rfl) (hij : i ≠ j := by decide) (hil : i ≠ l := by decide) (hjl : j ≠ l := by decide)
    (hx : X.env.scope.names.lookup x = some .local := by rfl) (hy : X.env.scope.names.lookup y = some .local := by rfl) (hz : X.env.scope.names.lookup z = some .local := by rfl)
    (hw : swappedStores [.Tuple [.Name x px, .Name y py, .Name z pz] kt pt] (.Tuple [a, c, e] k2 pt2) X.env = pure (some [x, y, z]) := by rfl)
    (hs : swapsWithSole [.Tuple [.Name x px, .Name y py, .Name z pz] kt pt] (.Tuple [a, c, e] k2 pt2) pos.line X.env = pure false := by rfl) :
    FS X L W (.Assign [.Tuple [.Name x px, .Name y py, .Name z pz] kt pt] (.Tuple [a, c, e] k2 pt2) pos) (tPar3 i j l t) (wPar3 i j l wl) := by
  refine ⟨ps_par3 hc hN hi hj hl hij hil hjl hx hy hz ha.pe hw hs, fun b F s σ H E D' I h ok => ?_⟩
  refine ha.snd b F s σ H _ E.ex _ I h ok.exw fun F1 ds vs H1 I1 m1 k1 r1 q => ?_
  split at q
  · cases r1 with
    | cons h1 h2 =>
      cases h2 with
      | cons h2 h3 =>
        cases h3 with
        | cons h3 h4 =>
          cases h4
          exact ⟨_, _, _, rfl, ok.nx F1 _ _ H1 (((I1.put h1).put h2).put h3) m1 q⟩
  · exact q.elim
/-- x op= e, ints -/
def wAug (i : Nat) (C : Int → Int → Prop) (f : Int → Int → Int) (wa : We) : Ws := fun s E => match s[i]? with
  | some (.fz (.int n)) => wa s (fun d => match d with
    | .int m => C n m ∧ E.nx (s.set i (.fz (.int (f n m))))
    | _ => False) E.ex
  | _ => False
theorem fs_aug {i : Nat} {x : Str} {op : Operator} {C : Int → Int → Prop} {f : Int → Int → Int} (ho : OpR X (inplaceOp op) (rI C fun i j => .int (f i j))) (hN : X.N.Nodup) (ha : FE X L W a ta wa) (hi : X.N[i]? = some x := by rfl) (hx : Loc X.env.scope x := by first | exact Or.inl rfl | exact Or.inr rfl)
    (hf : X.fn x = true ∨ X.env.scope.names.lookup x = some .local := by first | exact .inl rfl | exact .inr rfl | assumption) : FS X L W (.AugAssign (.Name x p) op a pos) (tAug i ta (rI C fun i j => .int (f i j))) (wAug i C f wa) := by
  refine ⟨ps_aug hN hi hx ha.pe ho hf, fun b F s σ H E D' I h ok => ?_⟩
  unfold wAug at h
  split at h
  · rename_i n e
    obtain ⟨v, e1, r⟩ := I.slot i _ e
    cases r
    have e2 : σ[i]? = some (some (.int n)) := by
      rw [List.getD_eq_getElem?_getD] at e1
      cases q : σ[i]? with
      | none => rw [q] at e1; cases e1
      | some u => rw [q] at e1; exact congrArg some e1
    refine ⟨_, e2, ha.snd b F s σ H _ E.ex _ I h ok.exw fun F1 d v H1 I1 m1 k1 r1 q => ?_⟩
    split at q
    · cases r1
      exact ⟨_, _, rfl, rfl, q.1, ok.nx F1 _ _ H1 (I1.put (.int _)) m1 q.2⟩
    · exact q.elim
  · exact h.elim
theorem aug_add : OpR X (inplaceOp .Add) (rI (fun _ _ => True) fun i j => .int (i + j)) := opI fun _ _ _ _ _ _ _ _ q => iadd_int q
theorem aug_sub : OpR X (inplaceOp .Sub) (rI (fun _ _ => True) fun i j => .int (i - j)) := opI fun _ _ _ _ _ _ _ _ q => isub_int q
theorem aug_mul : OpR X (inplaceOp .Mult) (rI MulOk fun i j => .int (i * j)) := opI fun _ _ _ _ _ _ _ hc q => imul_int q hc
/-! ### loops -/
/-- a for over ds: what holds ahead of each turn is yours -/
def wForL (g : Wg) (w : Ws) (ds : List D) : Ws := fun s E => ∃ I : Nat → Sl → Prop, I 0 s ∧ (∀ i d s', ds[i]? = some d → I i s' → g d s' (fun s1 => w s1 { E with nx := I (i + 1), ct := I (i + 1), bk := E.nx })) ∧ ∀ s', I ds.length s' → E.nx s'
def wFor (wi : Wl) (g : Wg) (w : Ws) : Ws := fun s E => wi s (fun ds => wForL g w ds s E) E.ex
/-- .. turn by turn -/
def wForR (g : Wg) (w : Ws) : List D → Ws
  | [], s, E => E.nx s
  | d :: ds, s, E => g d s (fun s1 => w s1 { E with nx := fun s2 => wForR g w ds s2 E, ct := fun s2 => wForR g w ds s2 E, bk := E.nx })
theorem for_turns {g : Wg} {w : Ws} {ds : List D} {s : Sl} {E : En} (h : wForR g w ds s E) : wForL g w ds s E := by
  refine ⟨fun i s' => wForR g w (ds.drop i) s' E, by dsimp only; rw [List.drop_zero]; exact h, fun i d s' e q => ?_, fun s' q => by dsimp only at q; rw [List.drop_length] at q; exact q⟩
  have hlt : i < ds.length := (List.getElem?_eq_some_iff.mp e).1
  have e2 : ds.drop i = d :: ds.drop (i + 1) := by
    rw [List.getElem?_eq_getElem hlt] at e
    rw [← Option.some.inj e]
    exact List.drop_eq_getElem_cons hlt
  dsimp only at q
  rw [e2] at q
  exact q
variable {ti : TI} {wi : Wl}
theorem fs_for (po : PassesOwn (model X.prog X.w) X.A X.env X.xe) (hc : X.calm = true) (hi : FI X L W tg e ti wi) (hg : FG X L tg g wg) (hb : FSs X L W sts t w) (hs : ∀ x, foldedSetIterable e X.env x = pure x := by intro _; rfl) :
    FS X L W (.For tg e sts [] pos) (tFor ti g t) (wFor wi wg w) := by
  refine ⟨ps_for po hc hi.pe hg.pe hb.pe hs, fun b F s σ H E D' I h ok => ?_⟩
  refine hi.snd b F s σ H _ E.ex _ I h ok.exw fun F0 ds J H0 I0 m0 k0 wk hq => ?_
  obtain ⟨Iv, iv0, ivs, ive⟩ := hq
  refine ⟨fun i m σ H => m = ds.length - i ∧ i ≤ ds.length ∧ ∃ F1 s1, Rel X.K L b F1 s1 σ H ∧ Same F0 F1 ∧ Iv i s1, ⟨ds.length, by omega, by omega, F0, s, I0, Same.refl F0, iv0⟩, ?_⟩
  rintro i m σ1 H1 ⟨rfl, hi', F1, s1, I1, m1, q⟩
  obtain ⟨hgo, hstop, hy⟩ := wk F1 s1 σ1 H1 I1 m1 trivial
  by_cases hlt : i < ds.length
  · refine .inr ⟨hgo i hlt, fun σ' H' => ∃ F2 s2, Rel X.K L b F2 s2 σ' H' ∧ Same F0 F2 ∧ Iv (i + 1) s2, fun σ' H' z => ⟨ds.length - (i + 1), by omega, rfl, by omega, z⟩, fun x H' y => ?_⟩
    obtain ⟨F2, d, e1, I2, m2, k2, r2⟩ := hy i x H' hlt y
    refine hg.snd b F2 s1 σ1 H' x d _ _ I2 r2 (ivs i d s1 e1 q) fun F3 s3 σ3 H3 I3 m3 q3 => ?_
    have mm := m0.trans (m1.trans (m2.trans m3))
    refine hb.snd b F3 s3 σ3 H3 _ _ I3 q3 ⟨fun F4 s4 σ4 H4 I4 m4 z => ⟨F4, s4, I4, m1.trans (m2.trans (m3.trans m4)), z⟩, fun F4 s4 σ4 H4 v d I4 m4 r z => ok.rt F4 s4 σ4 H4 v d I4 (mm.trans m4) r z,
      fun F4 s4 σ4 H4 I4 m4 z => ok.nx F4 s4 σ4 H4 I4 (mm.trans m4) z, fun F4 s4 σ4 H4 I4 m4 z => ⟨F4, s4, I4, m1.trans (m2.trans (m3.trans m4)), z⟩,
      fun cls F4 s4 σ4 H4 I4 m4 z => ok.ex cls F4 s4 σ4 H4 I4 (mm.trans m4) z, fun F4 s4 σ4 H4 p vs ds I4 m4 fr e r z => ok.rn F4 s4 σ4 H4 p vs ds I4 (mm.trans m4) fr e r z⟩
  · have e : i = ds.length := by omega
    subst e
    exact .inl ⟨hstop, ok.nx F1 s1 σ1 H1 I1 (m0.trans m1) (ive s1 q)⟩
/-- a while: what holds ahead of each turn, by a number that falls -/
def wWhile (v : Wt) (w : Ws) : Ws := fun s E => ∃ I : Nat → Sl → Prop, (∃ m, I m s) ∧ ∀ m s', I m s' → v s' (fun c => cond c (w s' { E with nx := fun s2 => ∃ m', m' < m ∧ I m' s2, ct := fun s2 => ∃ m', m' < m ∧ I m' s2, bk := E.nx }) (E.nx s')) E.ex
theorem fs_while (po : PassesOwn (model X.prog X.w) X.A X.env X.xe) (ht : FT X L W e tA vA) (hb : FSs X L W sts t w) : FS X L W (.While e sts [] pos) (tWhile tA t) (wWhile vA w) := by
  refine ⟨ps_while po ht.pe hb.pe, fun b F s σ H E D' I h ok => ?_⟩
  obtain ⟨Iv, ⟨n0, h⟩, hst⟩ := h
  refine ⟨fun m σ H => ∃ F1 s1, Rel X.K L b F1 s1 σ H ∧ Same F F1 ∧ Iv m s1, ⟨n0, F, s, I, Same.refl F, h⟩, ?_⟩
  rintro m σ1 H1 ⟨F1, s1, I1, m1, q⟩
  refine ht.snd b F1 s1 σ1 H1 _ E.ex _ I1 (hst m s1 q) (ok.mono m1).exw fun F2 z H2 I2 m2 k2 q2 => ?_
  cases z with
  | false => rw [if_neg Bool.false_ne_true]; exact ok.nx F2 s1 σ1 H2 I2 (m1.trans m2) q2
  | true =>
    rw [if_pos rfl]
    refine ⟨fun σ' H' => ∃ m', m' < m ∧ ∃ F3 s3, Rel X.K L b F3 s3 σ' H' ∧ Same F F3 ∧ Iv m' s3, fun σ' H' z => z, ?_⟩
    exact hb.snd b F2 s1 σ1 H2 _ _ I2 q2 ⟨fun F4 s4 σ4 H4 I4 m4 ⟨m', hm, z⟩ => ⟨m', hm, F4, s4, I4, m1.trans (m2.trans m4), z⟩, fun F4 s4 σ4 H4 v d I4 m4 r z => ok.rt F4 s4 σ4 H4 v d I4 (m1.trans (m2.trans m4)) r z,
      fun F4 s4 σ4 H4 I4 m4 z => ok.nx F4 s4 σ4 H4 I4 (m1.trans (m2.trans m4)) z, fun F4 s4 σ4 H4 I4 m4 ⟨m', hm, z⟩ => ⟨m', hm, F4, s4, I4, m1.trans (m2.trans m4), z⟩, fun cls F4 s4 σ4 H4 I4 m4 z => ok.ex cls F4 s4 σ4 H4 I4 (m1.trans (m2.trans m4)) z,
      fun F4 s4 σ4 H4 p vs ds I4 m4 fr e r z => ok.rn F4 s4 σ4 H4 p vs ds I4 (m1.trans (m2.trans m4)) fr e r z⟩
end
end FL

/-! FL7: what is walked; built-in calls. -/
namespace FL
open PySem PySem.Spec PyProof.Rows L2
section
variable {X : Cx} {L : Lw} {W : WX} {pos p : Pos} {tg a c e : Expr} {ta tb tc te : TE} {wa wb wc we : We} {wl : Wl} {t : TA}
/-! ### what is walked -/
def sgn (n : Nat) : D := .str ⟨#[n]⟩
def seqD : D → (List D → Prop) → Prop
  | .list ds, Q => Q ds
  | .tuple ds, Q => Q ds
  | .str z, Q => Q (z.cps.toList.map sgn)
  | _, _ => False
abbrev iSeq (K : PySem.W.Frag) (te : TE) : TI := fun σ H R => te σ H fun x H1 => (∃ a, x = .ref a ∧ (∃ xs, SqL K H1 a xs) ∧ R (Itl K a) H1) ∨ (∃ a, x = .ref a ∧ (∃ xs, SqT K H1 a xs) ∧ R (Itt K a) H1) ∨ ∃ z, x = .str z ∧ R (Its z) H1
theorem pi_seq (he : PE X e te) : PI X tg e (iSeq X.K te) := by
  refine ⟨fun pins s σ H R I h => ?_⟩
  refine thn (he.run pins s σ H _ I h) fun v s1 h1 => ?_
  obtain ⟨x, H1, I1, r1, q⟩ := h1
  rcases q with ⟨p, rfl, ⟨xs, hq⟩, q⟩ | ⟨p, rfl, ⟨xs, hq⟩, q⟩ | ⟨x, rfl, q⟩
  · cases r1
    obtain ⟨its, rv, pl, hz⟩ := I1.list hq
    exact wpAny_pyIter_list pl.isList (pi_one (tk := s1.toks) I1 _ (turn_list p _) ⟨_, Heap.get?_push_size _ rfl, rfl, rfl⟩ q)
  · cases r1
    obtain ⟨its, rv, pl, hz⟩ := I1.tuple hq
    exact wpAny_pyIter_tuple (show s1.heap.IsTuple p its.toArray from pl) (pi_one (tk := s1.toks) I1 _ (turn_tuple p _) ⟨_, Heap.get?_push_size _ rfl, rfl, rfl⟩ q)
  · obtain ⟨t, rfl⟩ := r1
    cases ha : x.cps.all (· < 128)
    · exact wpAny_pyIter_wide ha (pi_one (tk := s1.toks) I1 _ (turn_str _ x t "str_iterator" (.inr rfl)) ⟨_, Heap.get?_push_size _ rfl, rfl, rfl⟩ q)
    · exact wpAny_pyIter_ascii ha (pi_one (tk := s1.toks) I1 _ (turn_str _ x t "str_ascii_iterator" (.inl rfl)) ⟨_, Heap.get?_push_size _ rfl, rfl, rfl⟩ q)
def wSeqI (wa : We) : Wl := fun s Q R => wa s (fun d => seqD d Q) R
section
variable {K : PySem.W.Frag} {b : Beg} {F H : Hp}
theorem wkd_same {J : It} {ds : List D} {n : Nat} {G : Hp → Prop} {Y : Nat → V → Prop} (hw : Walk J n G (fun i H x H' => H' = H ∧ Y i x)) (hn : n = ds.length) {P : Sl → L2.St → Prop} (hG : ∀ F1 s1 σ1 H1, Rel K L b F1 s1 σ1 H1 → Same F F1 → P s1 σ1 → G H1)
    (hY : ∀ F1, Same F F1 → ∀ i x, i < n → Y i x → ∃ d, ds[i]? = some d ∧ Dt K F1 x d) : WalkD K L b F P J ds := by
  subst hn
  intro F1 s1 σ1 H1 I1 m1 hp
  have g := hG F1 s1 σ1 H1 I1 m1 hp
  refine ⟨fun i hi => hw.goes i H1 hi g, hw.stops H1 g, fun i x H' hi y => ?_⟩
  obtain ⟨e, y⟩ := hw.yields i H1 x H' hi g y
  obtain ⟨d, e1, r⟩ := hY F1 m1 i x hi y
  subst e
  exact ⟨F1, d, e1, I1, Same.refl F1, Kp.refl, r⟩
theorem wkd_list {a : Addr} {xs : List V} {ds : List D} (h : SqL K F a xs) (r : DtAll K F xs ds) : WalkD K L b F (fun _ _ => True) (Itl K a) ds :=
  wkd_same (walk_list (K := K) (a := a) (xs := xs)) (dps_len r) (fun F1 s1 σ1 H1 I1 m1 _ => I1.sub.seq (m1.seq h)) fun F1 m1 i x hi y => dps_getv (dps_mono m1 r) y
theorem wkd_tup {a : Addr} {xs : List V} {ds : List D} (h : SqT K F a xs) (r : DtAll K F xs ds) : WalkD K L b F (fun _ _ => True) (Itt K a) ds :=
  wkd_same (walk_tup (K := K) (a := a) (xs := xs)) (dps_len r) (fun F1 s1 σ1 H1 I1 m1 _ => same_sqT I1.sub (same_sqT m1 h)) fun F1 m1 i x hi y => dps_getv (dps_mono m1 r) y
theorem wkd_str {z : Str} : WalkD K L b F (fun _ _ => True) (Its z) (z.cps.toList.map sgn) :=
  wkd_same (walk_str (z := z)) (by simp) (fun _ _ _ _ _ _ _ => trivial) fun F1 m1 i x hi y => by
    obtain ⟨c, e, rfl⟩ := y
    exact ⟨sgn c, by rw [List.getElem?_map, Array.getElem?_toList, e]; rfl, .str _⟩
end
theorem fi_seq (he : FE X L W e te we) : FI X L W tg e (iSeq X.K te) (wSeqI we) := by
  refine ⟨pi_seq he.pe, fun b F s σ H Q R k I h hx kk => ?_⟩
  refine he.snd b F s σ H _ R _ I h hx fun F1 d v H1 I1 m1 k1 r1 q => ?_
  cases r1 with
  | lst h1 h2 => exact .inl ⟨_, rfl, ⟨_, I1.sub.seq h1⟩, kk F1 _ _ H1 I1 m1 k1 (wkd_list h1 h2) q⟩
  | tup h1 h2 => exact .inr (.inl ⟨_, rfl, ⟨_, same_sqT I1.sub h1⟩, kk F1 _ _ H1 I1 m1 k1 (wkd_tup h1 h2) q⟩)
  | str z => exact .inr (.inr ⟨_, rfl, kk F1 _ _ H1 I1 m1 k1 wkd_str q⟩)
  | _ => exact q.elim
/-- range -/
def rngD (lo : Int) (n : Nat) : List D := (List.range n).map fun i => .int (lo + (i : Nat))
def rngC (lo c : Int) (n : Nat) : List D := (List.range n).map fun i => .int (lo + (i : Nat) * c)
def RgI (i : Int) : Prop := -(2 ^ 62) ≤ i ∧ i < 2 ^ 62
def wRng1 (wl : Wl) : Wl := fun s Q R => wl s (fun ds => match ds with
  | [.int n] => RgI n ∧ Q (rngD 0 n.toNat)
  | _ => False) R
def wRng2 (wl : Wl) : Wl := fun s Q R => wl s (fun ds => match ds with
  | [.int m, .int n] => RgI m ∧ RgI n ∧ Q (rngD m (n - m).toNat)
  | _ => False) R
def wRng3 (wl : Wl) : Wl := fun s Q R => wl s (fun ds => match ds with
  | [.int m, .int n, .int c] => ∃ k, RgC m n c k ∧ Q (rngC m c k)
  | _ => False) R
theorem rng_at {lo : Int} {n : Nat} {K : PySem.W.Frag} {F : Hp} {i : Nat} {x : V} (hi : i < n) (e : x = .int (lo + i)) : ∃ d, (rngD lo n)[i]? = some d ∧ Dt K F x d := by
  subst e
  exact ⟨.int (lo + i), by simp [rngD, hi], .int _⟩
theorem wkd_rng {K : PySem.W.Frag} {b : Beg} {F : Hp} {lo : Int} {n : Nat} : WalkD K L b F (fun _ _ => True) (Itr lo n) (rngD lo n) :=
  wkd_same (walk_range (lo := lo) (n := n)) (by simp [rngD]) (fun _ _ _ _ _ _ _ => trivial) fun F1 m1 i x hi y => rng_at hi y
theorem wkd_rngC {K : PySem.W.Frag} {b : Beg} {F : Hp} {lo c : Int} {n : Nat} : WalkD K L b F (fun _ _ => True) (Itc lo c n) (rngC lo c n) :=
  wkd_same (walk_rangeC (lo := lo) (c := c) (n := n)) (by simp [rngC]) (fun _ _ _ _ _ _ _ => trivial) fun F1 m1 i x hi y => by
    have y' : x = .int (lo + (i : Nat) * c) := y
    subst y'
    exact ⟨.int (lo + (i : Nat) * c), by simp [rngC, hi], .int _⟩
theorem fi_rng1 (hm : X.mg "range" = none) (ha : FLs X L W [a] t wl) (hg : Gl X "range" := by rfl) (hs : starEach [a] X.env = [(false, eval a X.env)] := by rfl) : FI X L W tg (.Call (.Name "range" p) [a] [] pos) (iRng1 t) (wRng1 wl) := by
  refine ⟨pi_range1 hg hm ha.pe hs, fun b F s σ H Q R k I h hx kk => ?_⟩
  refine ha.snd b F s σ H _ R _ I h hx fun F1 ds vs H1 I1 m1 k1 r1 q => ?_
  split at q
  · cases r1 with
    | cons h1 h2 =>
      cases h1
      cases h2
      exact ⟨_, rfl, q.1.1, q.1.2, kk F1 _ _ H1 I1 m1 k1 wkd_rng q.2⟩
  · exact q.elim
theorem fi_rng2 (hm : X.mg "range" = none) (ha : FLs X L W [a, c] t wl) (hg : Gl X "range" := by rfl) (hs : starEach [a, c] X.env = [(false, eval a X.env), (false, eval c X.env)] := by rfl) (hs2 : starEach [c] X.env = [(false, eval c X.env)] := by rfl) : FI X L W tg (.Call (.Name "range" p) [a, c] [] pos) (iRng2 t) (wRng2 wl) := by
  refine ⟨pi_range2 hg hm ha.pe hs hs2, fun b F s σ H Q R k I h hx kk => ?_⟩
  refine ha.snd b F s σ H _ R _ I h hx fun F1 ds vs H1 I1 m1 k1 r1 q => ?_
  split at q
  · cases r1 with
    | cons h1 h2 =>
      cases h1
      cases h2 with
      | cons h2 h3 =>
        cases h2
        cases h3
        exact ⟨_, _, rfl, ⟨q.1.1, q.1.2, q.2.1.1, q.2.1.2⟩, kk F1 _ _ H1 I1 m1 k1 wkd_rng q.2.2⟩
  · exact q.elim
/-! ### built-in functions by data -/
structure CalD (X : Cx) (L : Lw) (f : Value) (r : List V → Hp → VK → Prop) (w : List D → (D → Prop) → Prop) : Prop where
  opr : CallR X f r
  snd : ∀ (b : Beg) (F : Hp) (s : Sl) (σ : L2.St) (H : Hp) (vs : List V) (ds : List D) (Q : D → Prop) (k : VK), Rel X.K L b F s σ H → DtAll X.K F vs ds → w ds Q →
    (∀ F' c v H', Rel X.K L b F' s σ H' → Same F F' → Kp b H H' → Dt X.K F' v c → Q c → k v H') → r vs H k
def wCal (w : List D → (D → Prop) → Prop) (wl : Wl) : We := fun s Q R => wl s (fun ds => w ds Q) R
variable {x : Str} {id T : String} {es : List Expr} {r : List V → Hp → VK → Prop} {w : List D → (D → Prop) → Prop}
theorem fe_bi (o : CalD X L (.builtin id) r w) (hm : X.mg x = none) (hv : bootBuiltins x = some (.builtin id)) (ha : FLs X L W (e :: es) t wl) (hg : Gl X x := by rfl) (hn : x ≠ "__name__" := by decide) (hdb : (x == ("__debug__" : Str)) = false := by decide)
    (he : starEach (e :: es) X.env = (false, eval e X.env) :: starEach es X.env := by rfl) (hpl : (backTo pos (starEach es X.env)).any (·.1) = false := by rfl) : FE X L W (.Call (.Name x p) (e :: es) [] pos) (tCB r t) (wCal w wl) := by
  refine ⟨pe_callB o.opr hg hm hv ha.pe hn hdb he hpl, fun b F s σ H Q R k I h hx kk => ?_⟩
  refine ha.snd b F s σ H _ R _ I h hx fun F1 ds vs H1 I1 m1 k1 r1 q => ?_
  exact o.snd b F1 s σ H1 vs ds Q k I1 r1 q fun F2 c v H2 I2 m2 k2 r2 z => kk F2 c v H2 I2 (m1.trans m2) (k1.trans k2) r2 z
theorem fe_ty (o : CalD X L (.type T) r w) (hm : X.mg x = none) (hv : bootBuiltins x = some (.type T)) (ha : FLs X L W (e :: es) t wl) (hg : Gl X x := by rfl) (hn : x ≠ "__name__" := by decide) (hdb : (x == ("__debug__" : Str)) = false := by decide)
    (he : starEach (e :: es) X.env = (false, eval e X.env) :: starEach es X.env := by rfl) (hpl : (backTo pos (starEach es X.env)).any (·.1) = false := by rfl) : FE X L W (.Call (.Name x p) (e :: es) [] pos) (tCB r t) (wCal w wl) := by
  refine ⟨pe_callTy o.opr hg hm hv ha.pe hn hdb he hpl, fun b F s σ H Q R k I h hx kk => ?_⟩
  refine ha.snd b F s σ H _ R _ I h hx fun F1 ds vs H1 I1 m1 k1 r1 q => ?_
  exact o.snd b F1 s σ H1 vs ds Q k I1 r1 q fun F2 c v H2 I2 m2 k2 r2 z => kk F2 c v H2 I2 (m1.trans m2) (k1.trans k2) r2 z
abbrev rAbs : List V → Hp → VK → Prop := fun xs H Q => ∃ i, xs = [.int i] ∧ Q (.int (if i < 0 then -i else i)) H
abbrev rMax2 : List V → Hp → VK → Prop := fun xs H Q => ∃ i j, xs = [.int i, .int j] ∧ Q (.int (if j > i then j else i)) H
abbrev rMin2 : List V → Hp → VK → Prop := fun xs H Q => ∃ i j, xs = [.int i, .int j] ∧ Q (.int (if j < i then j else i)) H
abbrev rInt1 : List V → Hp → VK → Prop := fun xs H Q => (∃ i, xs = [.int i] ∧ Q (.int i) H) ∨ ∃ k, xs = [.bl k] ∧ Q (.int (if k then 1 else 0)) H
abbrev rLen (K : PySem.W.Frag) : List V → Hp → VK → Prop := fun xs H Q => ∃ x n, xs = [x] ∧ LenV K x H n ∧ Q (.int n) H
def dAbs : List D → (D → Prop) → Prop := fun ds Q => match ds with
  | [.int i] => Q (.int (if i < 0 then -i else i))
  | _ => False
theorem cal_abs : CalD X L (.builtin "abs") rAbs dAbs := by
  refine ⟨call_abs, fun b F s σ H vs ds Q k I h q kk => ?_⟩
  unfold dAbs at q
  split at q
  · cases h with
    | cons h1 h2 => cases h1; cases h2; exact ⟨_, rfl, kk F _ _ H I (Same.refl F) Kp.refl (.int _) q⟩
  · exact q.elim
def dMax2 : List D → (D → Prop) → Prop := fun ds Q => match ds with
  | [.int i, .int j] => Q (.int (if j > i then j else i))
  | _ => False
theorem cal_max2 (hc : X.calm = true) : CalD X L (.builtin "max") rMax2 dMax2 := by
  refine ⟨call_max2 hc, fun b F s σ H vs ds Q k I h q kk => ?_⟩
  unfold dMax2 at q
  split at q
  · cases h with
    | cons h1 h2 =>
      cases h1
      cases h2 with
      | cons h2 h3 => cases h2; cases h3; exact ⟨_, _, rfl, kk F _ _ H I (Same.refl F) Kp.refl (.int _) q⟩
  · exact q.elim
def dMin2 : List D → (D → Prop) → Prop := fun ds Q => match ds with
  | [.int i, .int j] => Q (.int (if j < i then j else i))
  | _ => False
theorem cal_min2 (hc : X.calm = true) : CalD X L (.builtin "min") rMin2 dMin2 := by
  refine ⟨call_min2 hc, fun b F s σ H vs ds Q k I h q kk => ?_⟩
  unfold dMin2 at q
  split at q
  · cases h with
    | cons h1 h2 =>
      cases h1
      cases h2 with
      | cons h2 h3 => cases h2; cases h3; exact ⟨_, _, rfl, kk F _ _ H I (Same.refl F) Kp.refl (.int _) q⟩
  · exact q.elim
def dInt1 : List D → (D → Prop) → Prop := fun ds Q => match ds with
  | [.int i] => Q (.int i)
  | [.bool b] => Q (.int (if b then 1 else 0))
  | _ => False
theorem cal_int1 : CalD X L (.type "int") rInt1 dInt1 := by
  refine ⟨call_int1, fun b F s σ H vs ds Q k I h q kk => ?_⟩
  unfold dInt1 at q
  split at q
  · cases h with
    | cons h1 h2 => cases h1; cases h2; exact .inl ⟨_, rfl, kk F _ _ H I (Same.refl F) Kp.refl (.int _) q⟩
  · cases h with
    | cons h1 h2 => cases h1; cases h2; exact .inr ⟨_, rfl, kk F _ _ H I (Same.refl F) Kp.refl (.int _) q⟩
  · exact q.elim
/-! ### one argument, only looked at -/
structure CalB (X : Cx) (L : Lw) (f : Value) (r : List V → Hp → VK → Prop) (w : D → (D → Prop) → Prop) : Prop where
  opr : CallR X f r
  snd : ∀ (b : Beg) (F : Hp) (s : Sl) (σ : L2.St) (H : Hp) (v : V) (d : D) (Q : D → Prop) (k : VK), Rel X.K L b F s σ H → DpB X.K b F H v d → w d Q →
    (∀ F' c v H', Rel X.K L b F' s σ H' → Same F F' → Kp b H H' → Dt X.K F' v c → Q c → k v H') → r [v] H k
def wCalB (w : D → (D → Prop) → Prop) (wa : We) : We := fun s Q R => wa s (fun d => w d Q) R
variable {w1 : D → (D → Prop) → Prop}
theorem fe_bi1 (o : CalB X L (.builtin id) r w1) (hm : X.mg x = none) (hv : bootBuiltins x = some (.builtin id)) (ha : FB X L W e te we) (hg : Gl X x := by rfl) (hn : x ≠ "__name__" := by decide) (hdb : (x == ("__debug__" : Str)) = false := by decide)
    (he : starEach [e] X.env = (false, eval e X.env) :: starEach [] X.env := by rfl) : FE X L W (.Call (.Name x p) [e] [] pos) (tCB r (tCons te tNil)) (wCalB w1 we) := by
  refine ⟨pe_callB o.opr hg hm hv (pa_cons ha.pe pa_nil he) hn hdb he rfl, fun b F s σ H Q R k I h hx kk => ?_⟩
  refine ha.snd b F s σ H _ R _ I h hx fun F1 d v H1 I1 m1 k1 r1 q => ?_
  exact o.snd b F1 s σ H1 v d Q k I1 r1 q fun F2 c v H2 I2 m2 k2 r2 z => kk F2 c v H2 I2 (m1.trans m2) (k1.trans k2) r2 z
theorem fe_ty1 (o : CalB X L (.type T) r w1) (hm : X.mg x = none) (hv : bootBuiltins x = some (.type T)) (ha : FB X L W e te we) (hg : Gl X x := by rfl) (hn : x ≠ "__name__" := by decide) (hdb : (x == ("__debug__" : Str)) = false := by decide)
    (he : starEach [e] X.env = (false, eval e X.env) :: starEach [] X.env := by rfl) : FE X L W (.Call (.Name x p) [e] [] pos) (tCB r (tCons te tNil)) (wCalB w1 we) := by
  refine ⟨pe_callTy o.opr hg hm hv (pa_cons ha.pe pa_nil he) hn hdb he rfl, fun b F s σ H Q R k I h hx kk => ?_⟩
  refine ha.snd b F s σ H _ R _ I h hx fun F1 d v H1 I1 m1 k1 r1 q => ?_
  exact o.snd b F1 s σ H1 v d Q k I1 r1 q fun F2 c v H2 I2 m2 k2 r2 z => kk F2 c v H2 I2 (m1.trans m2) (k1.trans k2) r2 z
def dLen : D → (D → Prop) → Prop := fun d Q => match d with
  | .list ds => Q (.int ds.length)
  | .tuple ds => Q (.int ds.length)
  | .str z => z.length ≤ sizeLine ∧ Q (.int z.length)
  | _ => False
theorem cal_len : CalB X L (.builtin "len") (rLen X.K) dLen := by
  refine ⟨call_len, fun b F s σ H v d Q k I h q kk => ?_⟩
  have h' := h.at I.sub
  cases h' with
  | lst h1 h2 => exact ⟨_, _, rfl, .inl ⟨_, h1, (dps_len h2).symm⟩, kk F _ _ H I (Same.refl F) Kp.refl (.int _) q⟩
  | tup h1 h2 => exact ⟨_, _, rfl, .inr ⟨_, h1, (dps_len h2).symm⟩, kk F _ _ H I (Same.refl F) Kp.refl (.int _) q⟩
  | str z => exact ⟨_, _, rfl, ⟨q.1, rfl⟩, kk F _ _ H I (Same.refl F) Kp.refl (.int _) q.2⟩
  | _ => exact q.elim
/-! ### isinstance(x, T), T a built-in type -/
def tyD : D → String
  | .none => "NoneType" | .bool _ => "bool" | .int _ => "int" | .str _ => "str" | .list _ => "list" | .tuple _ => "tuple" | .dict _ => "dict"
def isIntD : D → Bool
  | .int _ => true | .bool _ => true | _ => false
def isBoolD : D → Bool
  | .bool _ => true | _ => false
def isStrD : D → Bool
  | .str _ => true | _ => false
def isTupD : D → Bool
  | .tuple _ => true | _ => false
def isLstD : D → Bool
  | .list _ => true | _ => false
def isDctD : D → Bool
  | .dict _ => true | _ => false
structure IsiD (T : String) (f : D → Bool) : Prop where
  ok : ∀ d, kitB (tyD d) T = some (f d)
def tyNames : List String := ["NoneType", "bool", "int", "str", "list", "tuple", "dict"]
theorem isi_by {T : String} {f : D → Bool} (g : String → Bool) (h1 : ∀ d, f d = g (tyD d)) (h2 : (tyNames.all fun n => kitB n T == some (g n)) = true) : IsiD T f := ⟨fun d => by
  rw [h1 d]
  have h : tyD d ∈ tyNames := by cases d <;> simp [tyD, tyNames]
  exact beq_iff_eq.mp (List.all_eq_true.mp h2 _ h)⟩
theorem isi_int : IsiD "int" isIntD := isi_by (fun n => n == "int" || n == "bool") (fun d => by cases d <;> rfl) (by decide +kernel)
theorem isi_bool : IsiD "bool" isBoolD := isi_by (fun n => n == "bool") (fun d => by cases d <;> rfl) (by decide +kernel)
theorem isi_str : IsiD "str" isStrD := isi_by (fun n => n == "str") (fun d => by cases d <;> rfl) (by decide +kernel)
theorem isi_tup : IsiD "tuple" isTupD := isi_by (fun n => n == "tuple") (fun d => by cases d <;> rfl) (by decide +kernel)
theorem isi_lst : IsiD "list" isLstD := isi_by (fun n => n == "list") (fun d => by cases d <;> rfl) (by decide +kernel)
theorem tyx_of {K : PySem.W.Frag} {H : Hp} {v : V} {d : D} (h : Dt K H v d) : TyX K H v (.type (tyD d)) := by
  cases h with
  | non => exact .base .non
  | bl b => exact .base (.bl b)
  | int i => exact .base (.int i)
  | str x => exact .base (.str x)
  | lst h1 h2 =>
    rcases h1 with (h1 | ⟨o, h1⟩) | ⟨o, its, n, h1, h3, _⟩
    · exact .base (.lst h1)
    · exact .base (.frz h1)
    · exact .kList h1 h3
  | tup h1 h2 =>
    rcases h1 with (h1 | ⟨o, h1⟩) | ⟨o, its, n, h1, h3, _⟩
    · exact .base (.tup h1)
    · exact .fTuple h1
    · exact .kTuple h1 h3
def wIsi (f : D → Bool) (wa : We) : We := fun s Q R => wa s (fun d => Q (.bool (f d))) R
theorem fe_isi {y : Str} {p2 : Pos} {f : D → Bool} (o : IsiD T f) (hm : X.mg "isinstance" = none) (hb : bootBuiltins "isinstance" = some (.builtin "isinstance")) (hmT : X.mg y = none) (hv : bootBuiltins y = some (.type T)) (ha : FB X L W e te we) (hg : Gl X "isinstance" := by rfl) (hgT : Gl X y := by rfl)
    (hn : y ≠ "__name__" := by decide) (hdb : (y == ("__debug__" : Str)) = false := by decide) (he : starEach (e :: [.Name y p2]) X.env = (false, eval e X.env) :: starEach [.Name y p2] X.env := by rfl) :
    FE X L W (.Call (.Name "isinstance" p) [e, .Name y p2] [] pos) (tCB (rIsi X.K) (tCons te (tCons (tC (.ty T)) tNil))) (wIsi f we) := by
  refine ⟨pe_callB call_isi hg hm hb (pa_cons ha.pe (pa_cons (pe_bltn hgT hmT hv rfl hn hdb) pa_nil) he) (by decide) (by decide) he rfl, fun b F s σ H Q R k I h hx kk => ?_⟩
  refine ha.snd b F s σ H _ R _ I h hx fun F1 d v H1 I1 m1 k1 r1 q => ?_
  exact ⟨v, .ty T, .type (tyD d), .type T, f d, rfl, .ty T, tyx_of (r1.at I1.sub), kit_ty (o.ok d), kk F1 _ _ H1 I1 m1 k1 (.bl _) q⟩
/-! ### xs.append(e) -/
def wApp (i : Nat) (wa : We) : Ws := fun s E => match s[i]? with
  | some (.ow ds) => wa s (fun d => ds.length < sizeLine ∧ E.nx (s.set i (.ow (ds ++ [d])))) E.ex
  | _ => False
theorem Rel.grow {K : PySem.W.Frag} {b : Beg} {F : Hp} {s : Sl} {σ : L2.St} {H : Hp} {i : Nat} {ds es : List D} {a : Addr} {us : List V} (I : Rel K L b F s σ H) (e : s[i]? = some (.ow ds)) (ea : σ[i]? = some (some (.ref a))) (r : DtAll K F us es) :
    Rel K L b F (s.set i (.ow es)) σ (upd H a (.lst us)) := by
  have hi : i < s.length := (List.getElem?_eq_some_iff.mp e).1
  have hsg : σ.getD i none = some (.ref a) := by rw [List.getD_eq_getElem?_getD, ea]; rfl
  obtain ⟨a', vs, e1, h0, hd, hf, hh, hs⟩ := I.slot i _ e
  rw [hsg] at e1
  cases e1
  have ne : ∀ c o, H c = some o → (∀ ys, o ≠ .lst ys) → c ≠ a := fun c o h n z => by subst z; rw [hh] at h; cases h; exact n vs rfl
  have kp : Kp b b.H0 (upd H a (.lst us)) := fun c o h n t => by
    have z : c ≠ a := fun z => by subst z; rw [h0] at h; cases h
    rw [upd_ne z]; exact I.keep c o h n t
  refine { sub := fun c o h => ?_, old := I.old, new := I.new, keep := kp, live := fun c h => ?_, drw := fun c h => ?_, tab := fun P h => ?_, ntb := I.ntb, len := by rw [List.length_set]; exact I.len, slot := fun j c h => ?_, apart := fun j k c n h1 h2 h3 => ?_ }
  · have z : c ≠ a := fun z => by subst z; rw [hf] at h; cases h
    rw [upd_ne z]; exact I.sub c o h
  · refine I.live c ?_
    by_cases z : c = a
    · subst z; rw [upd_same] at h; cases h
    · rw [upd_ne z] at h; exact h
  · obtain ⟨h1, ws, fs, h2, h3⟩ := I.drw c h
    have z : c ≠ a := fun z => hd (by rw [← z]; exact h)
    exact ⟨h1, ws, fs, by rw [upd_ne z]; exact h2, h3⟩
  · obtain ⟨ps, h1, h2⟩ := I.tab P h
    exact ⟨ps, by rw [upd_ne (ne P _ h1 fun ys z => by cases z)]; exact h1, h2⟩
  · by_cases q : j = i
    · subst q
      rw [List.getElem?_set, if_pos rfl, if_pos hi] at h
      cases h
      exact ⟨a, us, hsg, h0, hd, hf, upd_same, r⟩
    · rw [List.getElem?_set_ne (Ne.symm q)] at h
      have x := I.slot j c h
      cases c with
      | no => trivial
      | fz d => exact x
      | dr => exact x
      | ow fs =>
        obtain ⟨a2, ws, e2, g0, gd, gf, gh, gs⟩ := x
        have z : a2 ≠ a := fun z => by
          subst z
          have hj : j < σ.length := by rw [I.len]; exact (List.getElem?_eq_some_iff.mp h).1
          have ej : σ[j]? = some (some (.ref a2)) := by
            rw [List.getD_eq_getElem?_getD, List.getElem?_eq_getElem hj] at e2
            rw [List.getElem?_eq_getElem hj]; exact congrArg some e2
          exact I.apart i j a2 (Ne.symm q) (by rw [e]; trivial) (by rw [h]; trivial) ea ej
        exact ⟨a2, ws, e2, g0, gd, gf, by rw [upd_ne z]; exact gh, gs⟩
  · have fix : ∀ {m : Nat}, isOw (s.set i (.ow es))[m]? → isOw s[m]? := fun {m} z => by
      by_cases q : m = i
      · subst q; rw [e]; trivial
      · rw [List.getElem?_set_ne (Ne.symm q)] at z; exact z
    exact I.apart j k c n (fix h1) (fix h2) h3
theorem slot_ref {K : PySem.W.Frag} {b : Beg} {F : Hp} {s : Sl} {σ : L2.St} {H : Hp} {i : Nat} {ds : List D} (I : Rel K L b F s σ H) (e : s[i]? = some (.ow ds)) : ∃ a vs, σ[i]? = some (some (.ref a)) ∧ b.H0 a = none ∧ b.dr ≠ some a ∧ F a = none ∧ H a = some (.lst vs) ∧ DtAll K F vs ds := by
  obtain ⟨a, vs, e1, h0, hd, hf, hh, hs⟩ := I.slot i _ e
  have hj : i < σ.length := by rw [I.len]; exact (List.getElem?_eq_some_iff.mp e).1
  refine ⟨a, vs, ?_, h0, hd, hf, hh, hs⟩
  rw [List.getD_eq_getElem?_getD, List.getElem?_eq_getElem hj] at e1
  rw [List.getElem?_eq_getElem hj]
  exact congrArg some e1
theorem fs_app (i : Nat) {x : Str} {p2 p3 : Pos} (ha : FE X L W e te we) (hN : X.N[i]? = some x := by rfl) (hv : Vis X.env.scope x := by first | exact Or.inl rfl | exact Or.inr (Or.inl rfl) | exact Or.inr (Or.inr rfl)) (hd : (x == ("__debug__" : Str)) = false := by decide)
    (hcd : (x == ("__classdict__" : Str)) = false := by decide) (hbase : attributeBase (.Name x p) "append" X.env (eval (.Name x p) X.env) = eval (.Name x p) X.env := by rfl)
    (hfew : ((backTo p3 (starEach [e] X.env)).all (fun x => !x.1) && (backToKw p3 (keywordEach [] X.env)).all (fun x => x.1.isSome) && decide ([e].length + ([] : List Keyword).length + (if ([] : List Keyword).isEmpty then 0 else 1) < 30)) = true := by rfl)
    (hline : (p2.endLine == p3.line) = true := by rfl) (hst : starEach [e] X.env = (false, eval e X.env) :: starEach [] X.env := by rfl)
    (hs : swapsWith (.Call (.Attribute (.Name x p) "append" p2) [e] [] p3) none pos.line X.env = pure false := by rfl) : FS X L W (.Expr (.Call (.Attribute (.Name x p) "append" p2) [e] [] p3) pos) (tDrop (tBM X.K "list" rAppend (tVar i) (tCons te tNil))) (wApp i we) := by
  refine ⟨ps_expr (pe_bm PySem.F.plainAttrs_list PySem.F.slot_list_append PySem.F.type_list_append mt_append (pv i hN hv hd hcd) (pa_cons ha.pe pa_nil hst) hbase hfew hline hst rfl) hs, fun b F s σ H E D' I h ok => ?_⟩
  unfold wApp at h
  split at h
  · rename_i ds q
    obtain ⟨a, vs, e1, h0, hd1, hf, hh, hs1⟩ := slot_ref I q
    refine ⟨_, e1, .inl ⟨rfl, _, .inl (.inl hh)⟩, ?_⟩
    refine ha.snd b F s σ H _ E.ex _ I h ok.exw fun F1 d v H1 I1 m1 k1 r1 z => ?_
    obtain ⟨a', vs', e1', _, _, _, hh', hs'⟩ := slot_ref I1 q
    rw [e1] at e1'
    cases e1'
    exact ⟨a, vs', v, rfl, rfl, hh', by rw [dps_len hs']; exact z.1, ok.nx F1 _ _ _ (I1.grow q e1 (dps_app hs' (dps_one r1))) m1 z.2⟩
  · exact h.elim
end
end FL

/-! FL8: the draws; a law's own def. -/
namespace FL
open PySem PySem.Spec PyProof.Rows L2
/-- draws that are a row of ints -/
def goodA (ds : List D) : Prop := ∃ ns : List Int, ds = ns.map .int
def lwA (tabs : List Addr) : Lw := ⟨tabs, goodA⟩
section
variable {X : Cx} {L : Lw} {W : WX}
theorem Rel.toDr {K : PySem.W.Frag} {b : Beg} {F : Hp} {s : Sl} {σ : L2.St} {H : Hp} {p : Addr} {vs : List V} {ds : List D} {i : Nat} (I : Rel K L b F s σ H) (hb : b.dr = none) (fr : Fresh b F s σ p) (e : H p = some (.lst vs)) (r : DtAll K F vs ds) (hg : L.good ds) :
    Rel K L ⟨b.H0, b.F0, some p⟩ F (s.set i .dr) (σ.set i (some (.ref p))) H where
  sub := I.sub
  old := I.old
  new := I.new
  keep := fun a o h _ t => I.keep a o h (by rw [hb]; simp) t
  live := I.live
  drw := fun a h => by
    cases (show some p = some a from h)
    exact ⟨fr.hf, vs, ds, e, r, hg⟩
  tab := I.tab
  ntb := I.ntb
  len := by rw [List.length_set, List.length_set, I.len]
  slot := fun j c q => by
    by_cases n : j = i
    · subst n
      rw [List.getElem?_set] at q
      split at q
      · split at q
        · cases q
          rename_i hj
          refine ⟨p, ?_, rfl⟩
          rw [List.getD_eq_getElem?_getD, List.getElem?_set, if_pos rfl, if_pos (by rw [I.len]; exact hj)]
          rfl
        · cases q
      · rename_i z; exact absurd rfl z
    · rw [List.getElem?_set_ne (Ne.symm n)] at q
      have hs : (σ.set i (some (.ref p))).getD j none = σ.getD j none := by
        rw [List.getD_eq_getElem?_getD, List.getElem?_set_ne (Ne.symm n), ← List.getD_eq_getElem?_getD]
      rw [hs]
      have x := I.slot j c q
      cases c with
      | no => trivial
      | fz d => exact x
      | dr =>
        obtain ⟨a, _, z⟩ := x
        rw [hb] at z; cases z
      | ow fs =>
        obtain ⟨a, ws, e1, h0, hd, hf, hh, hs1⟩ := x
        refine ⟨a, ws, e1, h0, fun z => ?_, hf, hh, hs1⟩
        cases (show some p = some a from z)
        have hj : j < σ.length := by rw [I.len]; exact (List.getElem?_eq_some_iff.mp q).1
        refine fr.hn j (by rw [q]; trivial) ?_
        rw [List.getD_eq_getElem?_getD, List.getElem?_eq_getElem hj] at e1
        rw [List.getElem?_eq_getElem hj]
        exact congrArg some e1
  apart := fun j k a n h1 h2 h3 h4 => by
    have nj : ∀ m, isOw (s.set i .dr)[m]? → m ≠ i := fun m z y => by
      subst y; rw [List.getElem?_set] at z
      split at z
      · split at z <;> exact z
      · rename_i y; exact absurd rfl y
    have n1 := nj j h1
    have n2 := nj k h2
    rw [List.getElem?_set_ne (Ne.symm n1)] at h1 h3
    rw [List.getElem?_set_ne (Ne.symm n2)] at h2 h4
    exact I.apart j k a n h1 h2 h3 h4
/-- the law's own promise -/
def spLaw (K : PySem.W.Frag) (L : Lw) : Sp := fun vs H Q E => ∃ (a : Addr) (ns : List Int), vs = [.ref a] ∧ SqL K H a (ns.map V.int) ∧ ns.length ≤ 63 ∧ (∀ z ∈ ns, Builtin.Int.intBits z ≤ 1048576) ∧ (∀ P ∈ L.tabs, TabG H P) ∧ ∀ H', Q (.bl true) H'
/-- all but the tables -/
def noTab (H : Hp) : Hp := fun a => match H a with
  | some (.tbl _) => none
  | o => o
theorem noTab_some {H : Hp} {a : Addr} {o : HO} (h : noTab H a = some o) : H a = some o ∧ ∀ ps, o ≠ .tbl ps := by
  unfold noTab at h
  split at h
  · cases h
  · rename_i n
    refine ⟨h, fun ps z => ?_⟩
    subst z
    exact n ps h
theorem noTab_of {H : Hp} {a : Addr} {o : HO} (h : H a = some o) (n : ∀ ps, o ≠ .tbl ps) : noTab H a = some o := by
  unfold noTab
  split
  · rename_i ps e
    rw [h] at e
    cases e
    exact absurd rfl (n ps)
  · exact h
theorem grd_law {K : PySem.W.Frag} {H : Hp} (ht : ∀ P ∈ L.tabs, TabG H P) : Grd K L ⟨H, noTab H, none⟩ (noTab H) H where
  sub := fun a o h => (noTab_some h).1
  old := Same.refl _
  new := fun _ _ h => .inl h
  keep := Kp.refl
  live := fun _ h => h
  drw := fun a h => by cases h
  tab := ht
  ntb := fun a ps h => (noTab_some h).2 ps rfl
theorem script_noTab {K : PySem.W.Frag} {H : Hp} {a : Addr} {xs : List V} (h : SqL K H a xs) : SqL K (noTab H) a xs := by
  rcases h with (h | ⟨o, h⟩) | h
  · exact .inl (.inl (noTab_of h fun ps z => by cases z))
  · exact .inl (.inr ⟨o, noTab_of h fun ps z => by cases z⟩)
  · exact .inr h
def asgVal : Stmt → Expr
  | .Assign _ a _ => a
  | _ => .Constant .none 0 ⟨0, 0, 0, 0⟩
theorem fn_law {P : Program} {w : World} {K : PySem.W.Frag} {mg : Str → Option Value} {base : Heap} {x qual : Str} {st : Stmt} {f : Addr} {fd : FuncData} {N : List Str} {k i : Nat} {par : Str} {s0 : Stmt} {rest : List Stmt} (Fn : Fun K x qual st f fd) (S : FnScope N [par] (defScope st)) (hst : defBody st = s0 :: rest)
    (hbody : ∀ (cdv : Value) (A : Around) (outer : List Env) (s : Shared) (H : Hp) (E : XK), Room k (A.deeper (envOfC qual (defScope st) s.heap.objs.size f cdv)) →
      Takes (cxOf (L2.CX P w) P w K mg base N qual (defScope st) f cdv A outer s H E) (fun cls d _ H => E cls d H) →
      PassesOwn (model P w) (cxOf (L2.CX P w) P w K mg base N qual (defScope st) f cdv A outer s H E).A (cxOf (L2.CX P w) P w K mg base N qual (defScope st) f cdv A outer s H E).env (cxOf (L2.CX P w) P w K mg base N qual (defScope st) f cdv A outer s H E).xe →
      ∃ t wl t2 ws, PS (cxOf (L2.CX P w) P w K mg base N qual (defScope st) f cdv A outer s H E) s0 (tAsg t (gName i)) ∧ FN (cxOf (L2.CX P w) P w K mg base N qual (defScope st) f cdv A outer s H E) L (fun cls d _ H => E cls d H) (asgVal s0) t wl ∧
        FSs (cxOf (L2.CX P w) P w K mg base N qual (defScope st) f cdv A outer s H E) L (fun cls d _ H => E cls d H) rest t2 ws ∧
        ∀ ns : List Int, ns.length ≤ 63 → (∀ z ∈ ns, Builtin.Int.intBits z ≤ 1048576) → wl (startS N.length [.fz (.list (ns.map .int))]) (fun ds => L.good ds ∧ ws ((startS N.length [.fz (.list (ns.map .int))]).set i .dr) { nx := fun _ => False, rt := fun d => d = .bool true, ex := fun _ => False }) (fun _ => False)) :
    FnOk P w K mg base (L2.CX P w) (k + 1) f fd [par] (spLaw K L) := by
  refine Fn.okX S (fun vs H Q E h => ?_) (fun cdv A outer s H vs Q E hr h => ?_)
  · obtain ⟨a, ns, rfl, _⟩ := h
    rfl
  · obtain ⟨a, ns, rfl, hS, hl, hb, ht, q⟩ := h
    obtain ⟨t, wl, t2, ws, hp, hn, hd, hq⟩ := hbody cdv A outer s H E hr (takes_of rfl rfl rfl rfl) (passes_of rfl)
    refine ⟨tSeq (tAsg t (gName i)) t2, by rw [hst]; exact pss_cons hp hd.pe, ?_⟩
    have g0 := grd_law (K := K) (H := H) ht
    have I0 : Rel K L ⟨H, noTab H, none⟩ (noTab H) (startS N.length [.fz (.list (ns.map .int))]) (L2.start N [.ref a]) H := rel_start g0 ⟨.lst (script_noTab hS) (dps_of_ints ns), trivial⟩
    refine hn.snd _ _ _ _ H _ _ _ I0 (hq ns hl hb) (fun cls F' H' I m z => z.elim) fun F1 ds p vs H1 I1 m1 k1 fr e1 r1 z => ?_
    refine hd.snd _ F1 _ _ H1 _ _ (I1.toDr rfl fr e1 r1 z.1) z.2 ⟨fun F' s' σ' H' I m z => z.elim, fun F' s' σ' H' v d I m r z => ?_, fun F' s' σ' H' I m z => z.elim, fun F' s' σ' H' I m z => z.elim, fun cls F' s' σ' H' I m z => z.elim, fun F' s' σ' H' p vs ds I m fr e r z => z.elim⟩
    subst z
    cases r
    exact q H'
/-! ### taking a draw: len(draws) == 0, draws.pop() -/
def spTake : Fs := fun cs q _ => match cs with
  | [.dr, .fz (.int n)] => 0 < n ∧ ∀ v : Int, 0 ≤ v → v < n → q (.int v)
  | _ => False
theorem take_inv {cs : List Cel} {q : D → Prop} {r : Value → Prop} (h : spTake cs q r) : ∃ n : Int, cs = [.dr, .fz (.int n)] ∧ 0 < n ∧ ∀ v : Int, 0 ≤ v → v < n → q (.int v) := by
  unfold spTake at h
  split at h
  · exact ⟨_, rfl, h⟩
  · exact h.elim
theorem fn_take {P : Program} {w : World} {K : PySem.W.Frag} {mg : Str → Option Value} {base : Heap} {x qual : Str} {st : Stmt} {f : Addr} {fd : FuncData} {tabs : List Addr} (Fn : Fun K x qual st f fd) (S : FnScope ["draws", "bound"] ["draws", "bound"] (defScope st)) (ml : mg "len" = none) (mi : mg "int" = none)
    (hb : ∀ (X : Cx), X.mg = mg → X.env.scope = defScope st → X.N = (["draws", "bound"] : List Str) → PSs X (defBody st) (tSeq (tIfS (tTest (tOp rEq (tCB (rLen X.K) (tCons (tVar 0) tNil)) (tC (.int 0)))) (tRet (tC (.int 0))) tNext)
      (tRet (tOp (rI (fun _ j => 0 < j) fun i j => .int (i % j)) (tCB rInt1 (tCons (tBM0 X.K "list" rPop (tVar 0)) tNil)) (tVar 1))))) :
    FnOk P w K mg base (L2.CX P w) 1 f fd ["draws", "bound"] (Spf K (lwA tabs) spTake) := by
  refine Fn.okX S (fun vs H Q E h => ?_) (fun cdv A outer s H vs Q E hr h => ?_)
  · obtain ⟨b, F, cs, q, r, g, ha, hw, _⟩ := h
    obtain ⟨n, rfl, _⟩ := take_inv hw
    exact ha.len
  · obtain ⟨b, F, cs, q, r, g, ha, hw, h1, h2⟩ := h
    obtain ⟨n, rfl, hn, hq⟩ := take_inv hw
    refine ⟨_, hb _ rfl rfl rfl, ?_⟩
    match vs, ha with
    | [x, y], ha =>
      obtain ⟨⟨a, rfl, hdr⟩, hy, _⟩ := ha
      cases (show Dt K F y (.int n) from hy)
      obtain ⟨hf, us, ds, hh, hs, ns, rfl⟩ := g.drw a hdr
      rw [dps_ints hs] at hh
      have fin : ∀ (H' : Hp) (v : Int), Grd K (lwA tabs) b F H' → 0 ≤ v → v < n → Q (.int v) H' := fun H' v g' v0 v1 => h1 F (.int v) (.int v) H' g' (Same.refl F) (.int v) (hq v v0 v1)
      refine ⟨.ref a, rfl, _, _, rfl, .inl ⟨_, .inl (.inl hh), rfl⟩, rfl, _, rfl, ite2 (fun e => ?_) (fun e => ?_)⟩
      · exact fin H 0 g (by omega) (by omega)
      · have hne : ns ≠ [] := fun z => by
          subst z
          exact e (decide_eq_true rfl)
        have hlast : (ns.map V.int)[(ns.map V.int).length - 1]? = some (.int (ns.getLast hne)) := by
          rw [List.length_map, List.getElem?_map, ← List.getLast?_eq_getElem?, List.getLast?_eq_some_getLast hne]
          rfl
        refine ⟨.ref a, rfl, .inl ⟨rfl, _, .inl (.inl hh)⟩, a, _, _, rfl, rfl, hh, hlast, .inl ⟨_, rfl, .int n, rfl, _, n, rfl, rfl, hn, fin _ _ ?_ (Int.emod_nonneg _ (by omega)) (Int.emod_lt_of_pos _ hn)⟩⟩
        have nf : ∀ c o, F c = some o → c ≠ a := fun c o h z => by subst z; rw [hf] at h; cases h
        exact {
          sub := fun c o h => by rw [upd_ne (nf c o h)]; exact g.sub c o h
          old := g.old
          new := g.new
          keep := fun c o h d t => by
            have z : c ≠ a := fun z => by subst z; exact d hdr
            rw [upd_ne z]; exact g.keep c o h d t
          live := fun c h => g.live c (by
            by_cases z : c = a
            · subst z; rw [upd_same] at h; cases h
            · rw [upd_ne z] at h; exact h)
          drw := fun c h => by
            rw [hdr] at h
            cases h
            exact ⟨hf, _, ns.dropLast.map .int, upd_same, by rw [← List.map_dropLast]; exact dps_of_ints _, ns.dropLast, rfl⟩
          tab := fun P h => by
            obtain ⟨ps, h3, h4⟩ := g.tab P h
            have z : P ≠ a := fun z => by subst z; rw [hh] at h3; cases h3
            exact ⟨ps, by rw [upd_ne z]; exact h3, h4⟩
          ntb := g.ntb }
end
end FL

/-! FL9: list(..), tuple(..), list(reversed(..)). -/
namespace FL
open PySem PySem.Spec PyProof.Rows L2
section
variable {prog : Program} {w : World} {A : Around} {E : Value → Shared → Prop} {s : Shared}
/-- list(r), r a reversed list's iterator that has not moved -/
theorem list_of_rev {it l : Addr} {items : Array Value} {Q : Value → Shared → Prop} (hh : A.handled = none) (hit : s.heap.IsRevIter it l ((items.size : Int) - 1)) (hl : s.heap.IsList l items) (hne : l ≠ it) (hn : items.size ≤ sizeLine)
    (hQ : ∀ (h' : Heap) (tk : Nat) (acc : Array Value) (c : Nat), (∀ b o, b ≠ it → s.heap.get? b = some o → h'.get? b = some o) → h'.get? s.heap.objs.size = some { cls := .type "list", dict := none, data := .seq acc c, slots := #[] } →
      ItemsOf (fun i v => items[items.size - 1 - i]? = some v) acc items.size → Q (.ref s.heap.objs.size) { s with heap := h', toks := tk }) : wpAny (model prog w) A (call (.type "list") [.ref it]) Q E s := by
  have lt_it : it < s.heap.objs.size := let ⟨_, ho, _⟩ := hit; Heap.lt_size ho
  have lt_l : l < s.heap.objs.size := let ⟨_, ho, _⟩ := hl; Heap.lt_size ho
  have hSi : s.heap.objs.size ≠ it := Nat.ne_of_gt lt_it
  have hSl : s.heap.objs.size ≠ l := Nat.ne_of_gt lt_l
  have hSf : s.heap.objs.size ∉ [it, l] := by
    simp only [List.mem_cons, List.not_mem_nil, or_false, not_or]
    exact ⟨hSi, hSl⟩
  refine callType_codes (Q₁ := fun obj s₁ => obj = .ref s.heap.objs.size ∧ s₁ = { s with heap := s.heap.push { cls := .type "list", data := .seq #[] } }) PySem.F.called_list (PySem.F.typeCall_list_1 _) PySem.F.entry_list_init (code_list_new _ ⟨rfl, rfl⟩) ?_
  rintro obj s₁ ⟨rfl, rfl⟩
  have e0 : (s.heap.push { cls := .type "list", data := .seq #[] }).get? s.heap.objs.size = some { cls := .type "list", data := .seq #[] } := Heap.get?_push_size _ rfl
  refine ⟨⟨_, e0, rfl⟩, PySem.F.args_list_init_2 _ _, ?_⟩
  show wpAny _ A.in1.in1 (do let old ← Builtin.List.listItems (.ref s.heap.objs.size); Builtin.List.listUpdate (.ref s.heap.objs.size) (fun _ => #[]); letGo old.toList.reverse; Builtin.List.listExtendWith (.ref s.heap.objs.size) (.ref it) .none) _ _ _
  refine wpAny_bind ?_
  unfold Builtin.List.listItems
  refine wpAny_bind (wpAny_seqItems e0 rfl (wpAny_pure ?_))
  show wpAny _ A.in1.in1 (updateSeq s.heap.objs.size (fun _ => #[]) >>= fun _ => letGo (#[] : Array Value).toList.reverse >>= fun _ => Builtin.List.listExtendWith (.ref s.heap.objs.size) (.ref it) .none) _ _ _
  refine wpAny_bind (wpAny_updateSeq e0 rfl ?_)
  have e1 := Heap.get?_update_self (Obj.mapSeq (fun _ => (#[] : Array Value))) e0 rfl
  have up : ∀ b o, s.heap.get? b = some o → ((s.heap.push { cls := .type "list", data := .seq #[] }).update s.heap.objs.size (Obj.mapSeq (fun _ => (#[] : Array Value)))).get? b = some o := fun b o e =>
    (Heap.get?_update_other _ _ (Nat.ne_of_gt (Heap.lt_size e))).trans (Heap.get?_push_of_some _ e)
  refine wpAny_bind (wpAny_letGo ?_)
  have it1 := hit.at fun o e => up it o e
  have l1 : ((s.heap.push { cls := .type "list", data := .seq #[] }).update s.heap.objs.size (Obj.mapSeq (fun _ => (#[] : Array Value)))).IsList l items := by
    obtain ⟨o, ho, r⟩ := hl
    exact ⟨o, up l o ho, r⟩
  have ty : ∀ {h : Heap} {tk : Nat}, h.IsRevIter it l ((items.size : Int) - 1) → ({ s with heap := h, toks := tk } : Shared).TypeIs (.ref it) "list_reverseiterator" := fun {h tk} x => Heap.IsRevIter.typeIs (s := { s with heap := h, toks := tk }) x
  have ns : Builtin.List.listSameRef (.ref s.heap.objs.size) (.ref it) = false := by simp [Builtin.List.listSameRef, hSi]
  unfold Builtin.List.listExtendWith
  refine wpAny_bind (wpAny_typeOf (ty (tk := s.toks) it1) ?_)
  rw [if_neg (show ¬ _ by rw [ns]; decide)]
  refine wpAny_bind (wpAny_pyIter_revIter (s := { s with heap := _ }) it1 ?_)
  refine wpAny_bind (wpAny_holding ?_)
  unfold Builtin.List.listLengthHint
  refine wpAny_bind (wpAny_specialOf (ty (tk := s.toks) it1) RT.nolen_lri ?_)
  show wpAny _ A.in1.in1 (specialOf (Value.ref it) (Str.ofString "__length_hint__") >>= _) _ _ _
  refine wpAny_bind (wpAny_specialOf (ty (tk := s.toks) it1) RT.hint_lri ?_)
  generalize hid : ("list_reverseiterator.__length_hint__" : String) = id0
  wp_delta
  rw [show splitId id0 = some ("list_reverseiterator", "__length_hint__") from by subst hid; decide +kernel]
  subst hid
  refine wpAny_bind (wpAny_isInstance (b := true) (ty (tk := s.toks) it1) (by rw [isSubtype_type]; kernel_rfl) ?_)
  refine wpAny_pure ?_
  rw [if_neg (by decide)]
  have W := (Walks.listRev (prog := prog) (w := w) (A := A.in1.in1) hh it l hne items).toS
  have ez : ((items.size : Nat) : Int) - 1 - ((0 : Nat) : Int) = (items.size : Int) - 1 := by omega
  refine wpAny_pure ⟨plainId_quiet PySem.F.plain_extend_loop _, codeAny_extend_loopS W hn _ hSf _ items.size 0 _ _ _ rfl (Nat.zero_le _) ⟨Nat.zero_le _, by rw [ez]; exact it1, l1⟩ e1 (ItemsOf.nil _) ?_⟩
  intro s' acc c hm hS hacc
  refine ⟨rfl, ?_⟩
  rw [Moved.eq_with hm]
  refine hQ s'.heap s'.toks acc c (fun b o hb e => hm.heap b o (fun hmem => ?_) (up b o e)) hS hacc
  rcases List.mem_cons.mp hmem with z | z
  · exact absurd (Heap.lt_size e) (by rw [z]; exact Nat.lt_irrefl _)
  · exact hb (List.mem_singleton.mp z)
end
section
variable {X : Cx} {L : Lw} {W : WX} {pos p : Pos} {e : Expr} {te : TE} {we : We}
def tLstRev (K : PySem.W.Frag) (te : TE) : TE := fun σ H Q => te σ H fun v H1 => ∃ (a : Addr) (xs : List V), v = .ref a ∧ SqL K H1 a xs ∧ ∀ q, H1 q = none → Q (.ref q) (upd H1 q (.lst xs.reverse))
theorem pe_lstRev {p2 pos2 : Pos} (hc : X.calm = true) (hg : Gl X "list") (hm : X.mg "list" = none) (hg2 : Gl X "reversed") (hm2 : X.mg "reversed" = none) (he : PE X e te)
    (hs : starEach [e] X.env = (false, eval e X.env) :: starEach [] X.env)
    (hs2 : starEach [.Call (.Name "reversed" p2) [e] [] pos2] X.env = (false, eval (.Call (.Name "reversed" p2) [e] [] pos2) X.env) :: starEach [] X.env) :
    PE X (.Call (.Name "list" p) [.Call (.Name "reversed" p2) [e] [] pos2] [] pos) (tLstRev X.K te) := by
  refine ⟨fun pins s σ H Q I h => ?_⟩
  refine Call_ (ld_blt I hg hm boot_list (PyProof.Rows.callWith_type1 (args_cons (Call_ (ld_blt I hg2 hm2 PyProof.Rows.boot_reversed (PyProof.Rows.callWith_type1 (args_cons (thn (he.run pins s σ H _ I h) fun u s1 ⟨v, H1, I1, r1, q1⟩ => args_nil ?_) hs) hs rfl))) hs2) hs2 rfl))
  obtain ⟨a, xs, ev, hq, q⟩ := q1
  subst ev
  obtain rfl : u = Value.ref a := r1
  obtain ⟨its, rv, p', hz⟩ := I1.list hq
  refine call_reversed_list p'.isList (args_nil ?_)
  have k0 : ∀ b o, s1.heap.get? b = some o → (s1.heap.push (revObj a ((its.toArray.size : Int) - 1))).get? b = some o := fun b o e => Heap.get?_push_of_some _ e
  have I2 : L2.Inv X pins σ H1 { s1 with heap := s1.heap.push (revObj a ((its.toArray.size : Int) - 1)) } := I1.kept (t' := s1.toks) k0
  obtain ⟨f0, f1, f2, f3, f4, f5⟩ := I1.fpOk (H' := H1) (b := s1.heap.objs.size) (Nat.le_refl _) (I1.hok.fresh (Nat.le_refl _))
  have hl := p'.isList
  have hne : a ≠ s1.heap.objs.size := let ⟨_, ho, _⟩ := hl; Nat.ne_of_lt (Heap.lt_size ho)
  have hn : its.toArray.size ≤ sizeLine := by rw [List.size_toArray, ← rv.length]; exact hz
  have hne2 : s1.heap.objs.size ≠ s1.heap.objs.size + 1 := Nat.ne_of_lt (Nat.lt_succ_self _)
  refine list_of_rev (s := { s1 with heap := s1.heap.push (revObj a ((its.toArray.size : Int) - 1)) }) (I1.ok.hd hc) ⟨_, Heap.get?_push_size _ rfl, rfl, rfl⟩ (hl.push _) hne hn fun h' tk acc c hk hS hi => ?_
  have sz : (s1.heap.push (revObj a ((its.toArray.size : Int) - 1))).objs.size = s1.heap.objs.size + 1 := Heap.size_push ..
  rw [sz] at hS ⊢
  have up : ∀ b o, s1.heap.get? b = some o → h'.get? b = some o := fun b o e => hk b o (Nat.ne_of_lt (Heap.lt_size e)) (k0 b o e)
  refine ⟨.ref (s1.heap.objs.size + 1), upd H1 (s1.heap.objs.size + 1) (.lst xs.reverse), I1.laid (t' := tk) up (Nat.le_succ _) (show ObjOk X.prog X.w _ _ _ (.lst xs.reverse) from ⟨by rw [List.length_reverse]; exact hz, acc.toList, c, RT.vals_rev rv hi, ?_⟩), rfl, q _ (I1.hok.fresh (Nat.le_succ _))⟩
  rw [Array.toArray_toList]
  exact hS
theorem dps_rev {K : PySem.W.Frag} {H : Hp} : ∀ {vs : List V} {ds : List D}, DtAll K H vs ds → DtAll K H vs.reverse ds.reverse
  | _, [], h => by cases h; exact .nil
  | _, _ :: _, h => by
    cases h with
    | cons h1 h2 => rw [List.reverse_cons, List.reverse_cons]; exact dps_app (dps_rev h2) (dps_one h1)
def wLRev (wa : We) : Wl := fun s Q R => wa s (fun d => match d with
  | .list ds => Q ds.reverse
  | _ => False) R
theorem fn_listRev {p2 pos2 : Pos} (hc : X.calm = true) (hm : X.mg "list" = none) (hm2 : X.mg "reversed" = none) (he : FB X L W e te we) (hg : Gl X "list" := by rfl) (hg2 : Gl X "reversed" := by rfl)
    (hs : starEach [e] X.env = (false, eval e X.env) :: starEach [] X.env := by rfl)
    (hs2 : starEach [.Call (.Name "reversed" p2) [e] [] pos2] X.env = (false, eval (.Call (.Name "reversed" p2) [e] [] pos2) X.env) :: starEach [] X.env := by rfl) :
    FN X L W (.Call (.Name "list" p) [.Call (.Name "reversed" p2) [e] [] pos2] [] pos) (tLstRev X.K te) (wLRev we) := by
  refine ⟨pe_lstRev hc hg hm hg2 hm2 he.pe hs hs2, fun b F s σ H Q R k I h hx kk => ?_⟩
  refine he.snd b F s σ H _ R _ I h hx fun F1 d v H1 I1 m1 k1 r1 q => ?_
  split at q
  · have lay : ∀ {vs : List V} {ds : List D}, DtAll X.K F1 vs ds → Q ds.reverse → ∀ z, H1 z = none → k (.ref z) (upd H1 z (.lst vs.reverse)) := fun {vs ds} r q z hz =>
      kk F1 ds.reverse z vs.reverse _ (I1.lay hz) m1 (k1.trans (Kp.of (same_upd hz))) ⟨I1.live z hz, I1.dr_some hz, I1.f_none hz, fun i y => I1.ow_some hz i y⟩ upd_same (dps_rev r) q
    rcases r1 with r1 | ⟨a, vs, ds, rfl, e2, e3, e4, e5⟩
    · cases r1 with
      | lst h1 h2 => exact ⟨_, _, rfl, I1.sub.seq h1, lay h2 q⟩
    · cases e2
      exact ⟨_, _, rfl, .inl (.inl e4), lay e5 q⟩
  · exact q.elim
/-! ### list(x), tuple(x) of a list or a tuple -/
theorem fresh_at {b : Beg} {F : Hp} {s : Sl} {σ : L2.St} {H : Hp} {K : PySem.W.Frag} (I : Rel K L b F s σ H) {z : Addr} (hz : H z = none) : Fresh b F s σ z := ⟨I.live z hz, I.dr_some hz, I.f_none hz, fun i y => I.ow_some hz i y⟩
abbrev rListA (K : PySem.W.Frag) : List V → Hp → VK → Prop := fun xs H Q => ∃ p ys, xs = [.ref p] ∧ (SqL K H p ys ∨ SqT K H p ys) ∧ ∀ l, H l = none → Q (.ref l) (upd H l (.lst ys))
def wListA (wa : We) : Wl := fun s Q R => wa s (fun d => match d with
  | .list ds => Q ds
  | .tuple ds => Q ds
  | _ => False) R
theorem fn_list (hm : X.mg "list" = none) (he : FB X L W e te we) (hg : Gl X "list" := by rfl) (hs : starEach [e] X.env = (false, eval e X.env) :: starEach [] X.env := by rfl) : FN X L W (.Call (.Name "list" p) [e] [] pos) (tCB (rListA X.K) (tCons te tNil)) (wListA we) := by
  refine ⟨pe_callTy call_list_of hg hm boot_list (pa_cons he.pe pa_nil hs) (by decide) (by decide) hs rfl, fun b F s σ H Q R k I h hx kk => ?_⟩
  refine he.snd b F s σ H _ R _ I h hx fun F1 d v H1 I1 m1 k1 r1 q => ?_
  have lay : ∀ {vs : List V} {ds : List D}, DtAll X.K F1 vs ds → Q ds → ∀ z, H1 z = none → k (.ref z) (upd H1 z (.lst vs)) := fun {vs ds} r q z hz =>
    kk F1 ds z vs _ (I1.lay hz) m1 (k1.trans (Kp.of (same_upd hz))) (fresh_at I1 hz) upd_same r q
  rcases r1 with r1 | ⟨a, vs, ds, rfl, rfl, e3, e4, e5⟩
  · cases r1 with
    | lst h1 h2 => exact ⟨_, _, rfl, .inl (I1.sub.seq h1), lay h2 q⟩
    | tup h1 h2 => exact ⟨_, _, rfl, .inr (same_sqT I1.sub h1), lay h2 q⟩
    | _ => exact q.elim
  · exact ⟨_, _, rfl, .inl (.inl (.inl e4)), lay e5 q⟩
abbrev rTupA (K : PySem.W.Frag) : List V → Hp → VK → Prop := fun xs H Q => ∃ p ys, xs = [.ref p] ∧ ((SqL K H p ys ∧ ∀ l, H l = none → Q (.ref l) (upd H l (.tup ys))) ∨ (SqT K H p ys ∧ Q (.ref p) H))
def dTupA : D → (D → Prop) → Prop := fun d Q => match d with
  | .list ds => Q (.tuple ds)
  | .tuple ds => Q (.tuple ds)
  | _ => False
theorem cal_tuple : CalB X L (.type "tuple") (rTupA X.K) dTupA := by
  refine ⟨call_tuple_of, fun b F s σ H v d Q k I h q kk => ?_⟩
  have lay : ∀ {vs : List V} {ds : List D}, DtAll X.K F vs ds → Q (.tuple ds) → ∀ z, H z = none → k (.ref z) (upd H z (.tup vs)) := fun {vs ds} r q z hz =>
    kk _ _ _ _ (I.new1 hz (fun ps y => by cases y)) (same_upd (I.f_none hz)) (Kp.of (same_upd hz)) (.tup (.inl (.inl upd_same)) (dps_mono (same_upd (I.f_none hz)) r)) q
  rcases h with h | ⟨a, vs, ds, rfl, rfl, e3, e4, e5⟩
  · cases h with
    | lst h1 h2 => exact ⟨_, _, rfl, .inl ⟨I.sub.seq h1, lay h2 q⟩⟩
    | tup h1 h2 => exact ⟨_, _, rfl, .inr ⟨same_sqT I.sub h1, kk F _ _ H I (Same.refl F) Kp.refl (.tup h1 h2) q⟩⟩
    | _ => exact q.elim
  · exact ⟨_, _, rfl, .inl ⟨.inl (.inl e4), lay e5 q⟩⟩
end
section
theorem cx_none {P : Program} : ∀ (w : World) (H : Hp) (s : Shared) (e : Value) (s' : Shared), L2.CX P w [] H s (fun _ _ _ => False) e s' → False := fun _ _ _ _ _ h => by
  obtain ⟨_, _, _, _, _, _, _, _, _, _, _, _, z⟩ := h
  exact z
theorem fnok_false {P : Program} {w : World} {K : PySem.W.Frag} {mg : Str → Option Value} {base : Heap} {k : Nat} {f : Addr} {fd : FuncData} {ps : List Str} {L : Lw} : FnOk P w K mg base (L2.CX P w) k f fd ps (Spf K L fun _ _ _ => False) :=
  ⟨fun vs H Q E ⟨_, _, _, _, _, _, _, z, _⟩ => z.elim, fun A outer s H args us vs Q E _ _ _ _ ⟨_, _, _, _, _, _, _, z, _⟩ => z.elim⟩
end
/-! ### the readings unfold where the slots are known -/
section
variable {c : Cel} {s : Sl} {E : En} {Q : D → Prop} {R : Value → Prop}
theorem u_seq {w w' : Ws} : wSeq w w' (c :: s) E = w (c :: s) { E with nx := fun s' => w' s' E } := rfl
theorem u_next : wNext (c :: s) E = E.nx (c :: s) := rfl
theorem u_drop {wa : We} : wDrop wa (c :: s) E = wa (c :: s) (fun _ => E.nx (c :: s)) E.ex := rfl
theorem u_ret {wa : We} : wRet wa (c :: s) E = wa (c :: s) E.rt E.ex := rfl
theorem u_retO {wl : Wl} : wRetO wl (c :: s) E = wl (c :: s) E.rn E.ex := rfl
theorem u_ifS {v : Wt} {w w' : Ws} : wIfS v w w' (c :: s) E = v (c :: s) (fun b => cond b (w (c :: s) E) (w' (c :: s) E)) E.ex := rfl
theorem u_asg {wa : We} {g : Wg} : wAsg wa g (c :: s) E = wa (c :: s) (fun d => g d (c :: s) E.nx) E.ex := rfl
theorem u_setO {i : Nat} {wl : Wl} : wSetO i wl (c :: s) E = wl (c :: s) (fun ds => E.nx ((c :: s).set i (.ow ds))) E.ex := rfl
theorem u_par {i j : Nat} {wl : Wl} : wPar i j wl (c :: s) E = wl (c :: s) (fun ds => match ds with | [d, e] => E.nx (((c :: s).set i (.fz d)).set j (.fz e)) | _ => False) E.ex := rfl
theorem u_par3 {i j l : Nat} {wl : Wl} : wPar3 i j l wl (c :: s) E = wl (c :: s) (fun ds => match ds with | [d, e, f] => E.nx ((((c :: s).set i (.fz d)).set j (.fz e)).set l (.fz f)) | _ => False) E.ex := rfl
theorem u_aug {i : Nat} {C : Int → Int → Prop} {f : Int → Int → Int} {wa : We} : wAug i C f wa (c :: s) E = (match (c :: s)[i]? with | some (.fz (.int n)) => wa (c :: s) (fun d => match d with | .int m => C n m ∧ E.nx ((c :: s).set i (.fz (.int (f n m)))) | _ => False) E.ex | _ => False) := rfl
theorem u_for {wi : Wl} {g : Wg} {w : Ws} : wFor wi g w (c :: s) E = wi (c :: s) (fun ds => wForL g w ds (c :: s) E) E.ex := rfl
theorem u_app {i : Nat} {wa : We} : wApp i wa (c :: s) E = (match (c :: s)[i]? with | some (.ow ds) => wa (c :: s) (fun d => ds.length < sizeLine ∧ E.nx ((c :: s).set i (.ow (ds ++ [d])))) E.ex | _ => False) := rfl
theorem u_fix {i : Nat} : Sl.fix (c :: s) i = (match (c :: s)[i]? with | some (.ow ds) => (c :: s).set i (.fz (.list ds)) | _ => c :: s) := rfl
theorem u_gname {i : Nat} {d : D} {Q : Sl → Prop} : wgName i d (c :: s) Q = Q ((c :: s).set i (.fz d)) := rfl
end
end FL

/-! FL10: plain facts that the readings ask for. -/
namespace FL
open PySem PySem.Spec PyProof.Rows L2
theorem rng_get {lo : Int} {n i : Nat} {d : D} (h : (rngD lo n)[i]? = some d) : d = .int (lo + i) ∧ i < n := by
  unfold rngD at h
  rw [List.getElem?_map] at h
  cases e : (List.range n)[i]? with
  | none => rw [e] at h; cases h
  | some j =>
    rw [e] at h; cases h
    have := List.getElem?_eq_some_iff.mp e
    obtain ⟨h1, h2⟩ := this
    rw [List.length_range] at h1
    rw [List.getElem_range] at h2
    subst h2
    exact ⟨rfl, h1⟩
theorem rng_get0 {n i : Nat} {d : D} (h : (rngD 0 n)[i]? = some d) : d = .int i ∧ i < n := by
  have := rng_get h
  rw [Int.zero_add] at this
  exact this
theorem rng_len {lo : Int} {n : Nat} : (rngD lo n).length = n := by simp [rngD]
theorem snoc_int {ms : List Int} {n : Int} : ms.map PyData.int ++ [.int n] = (ms ++ [n]).map .int := by simp
theorem ix_nat {ds : List D} {j : Nat} {Q : D → Prop} {d : D} (hj : ds[j]? = some d) (hq : Q d) : ∃ d, atI ds (j : Int) = some d ∧ Q d := ⟨d, atI_nat hj, hq⟩
theorem ix_int {ds : List D} {i : Int} {Q : D → Prop} {d : D} (h0 : 0 ≤ i) (hj : ds[i.toNat]? = some d) (hq : Q d) : ∃ d, atI ds i = some d ∧ Q d :=
  ⟨d, by have := atI_nat hj; rwa [Int.toNat_of_nonneg h0] at this, hq⟩
theorem ix_last {ds : List D} {Q : D → Prop} {d : D} (hj : ds.getLast? = some d) (hq : Q d) : ∃ d, atI ds (-1) = some d ∧ Q d := by
  obtain ⟨ys, rfl⟩ := List.getLast?_eq_some_iff.mp hj
  exact ⟨d, atI_last _ _, hq⟩
theorem ix_two {a b v : Int} {Q : D → Prop} (h0 : 0 ≤ v) (h1 : v < 2) (h : ∀ c : Int, c = a ∨ c = b → Q (.int c)) : ∃ d, atI [PyData.int a, .int b] v = some d ∧ Q d := by
  rcases (show v = 0 ∨ v = 1 by omega) with rfl | rfl
  · exact ⟨_, rfl, h a (.inl rfl)⟩
  · exact ⟨_, rfl, h b (.inr rfl)⟩
theorem rg_len {n : Nat} (h : n ≤ sizeLine) : RgI (n : Int) := by
  have : sizeLine ≤ 2 ^ 61 := by decide
  exact ⟨by omega, by omega⟩
theorem cond_dec {p : Prop} [Decidable p] {A B : Prop} : cond (decide p) A B = ((p → A) ∧ (¬ p → B)) := by
  by_cases h : p <;> simp [h]
theorem cond_not {b : Bool} {A B : Prop} : cond (!b) A B = cond b B A := by cases b <;> rfl
theorem b_nt : (!true) = false := rfl
theorem b_nf : (!false) = true := rfl
theorem c_t {A B : Prop} : cond true A B = A := rfl
theorem c_f {A B : Prop} : cond false A B = B := rfl
theorem cond_of {b : Bool} {A B : Prop} (h1 : b = true → A) (h2 : b = false → B) : cond b A B := by
  cases b with
  | true => exact h1 rfl
  | false => exact h2 rfl
theorem cond_t {b : Bool} {A B : Prop} (e : b = true) (h : A) : cond b A B := by subst e; exact h
theorem cond_f {b : Bool} {A B : Prop} (e : b = false) (h : B) : cond b A B := by subst e; exact h
/-! == -/
section
variable {a b : Int} {x y : Str} {p q : Bool}
theorem ok_ii : EqOk (.int a) (.int b) = True := eq_true (.inl rfl)
theorem ok_bb : EqOk (.bool p) (.bool q) = True := eq_true (.inl rfl)
theorem ok_ss : EqOk (.str x) (.str y) = True := eq_true (.inl rfl)
theorem ok_nn : EqOk .none .none = True := eq_true (.inl rfl)
theorem ok_ni : EqOk .none (.int a) = True := eq_true (.inl rfl)
theorem ok_in : EqOk (.int a) .none = True := eq_true (.inl rfl)
theorem ok_nb : EqOk .none (.bool p) = True := eq_true (.inl rfl)
theorem ok_bn : EqOk (.bool p) .none = True := eq_true (.inl rfl)
theorem ok_ns : EqOk .none (.str x) = True := eq_true (.inl rfl)
theorem ok_sn : EqOk (.str x) .none = True := eq_true (.inl rfl)
theorem ok_is : EqOk (.int a) (.str x) = True := eq_true (.inl rfl)
theorem ok_si : EqOk (.str x) (.int a) = True := eq_true (.inl rfl)
theorem ok_bs : EqOk (.bool p) (.str x) = True := eq_true (.inl rfl)
theorem ok_sb : EqOk (.str x) (.bool p) = True := eq_true (.inl rfl)
theorem ev_ii : PyData.eqv (.int a) (.int b) = decide (a = b) := by rw [PyData.eqv]; rfl
theorem ev_bb : PyData.eqv (.bool p) (.bool q) = decide (p = q) := by rw [PyData.eqv]; cases p <;> cases q <;> rfl
theorem ev_ss : PyData.eqv (.str x) (.str y) = decide (x = y) := by rw [PyData.eqv]; rfl
theorem ev_nn : PyData.eqv .none .none = true := by rw [PyData.eqv]
theorem ev_ni : PyData.eqv .none (.int a) = false := by simp [PyData.eqv]
theorem ev_in : PyData.eqv (.int a) .none = false := by simp [PyData.eqv]
theorem ev_nb : PyData.eqv .none (.bool p) = false := by simp [PyData.eqv]
theorem ev_bn : PyData.eqv (.bool p) .none = false := by simp [PyData.eqv]
theorem ev_ns : PyData.eqv .none (.str x) = false := by simp [PyData.eqv]
theorem ev_sn : PyData.eqv (.str x) .none = false := by simp [PyData.eqv]
theorem ev_is : PyData.eqv (.int a) (.str x) = false := by simp [PyData.eqv]
theorem ev_si : PyData.eqv (.str x) (.int a) = false := by simp [PyData.eqv]
theorem ev_bs : PyData.eqv (.bool p) (.str x) = false := by simp [PyData.eqv]
theorem ev_sb : PyData.eqv (.str x) (.bool p) = false := by simp [PyData.eqv]
end
end FL

namespace Lw
open PySem PySem.Spec PyProof.Rows L2 FL
def topS (i : Nat) : Stmt := PySem.Challenge.pw_nightsgiven_k28_whole_exposures.main.body.getD i (.Pass ⟨0, 0, 0, 0⟩)
local macro_rules | `(tactic| walk_at "wp") => `(tactic| try dsimp only [u_seq, u_next, u_drop, u_ret, u_retO, u_ifS, u_asg, u_setO, u_par, u_par3, u_aug, u_for, u_app, u_fix, u_gname, b_nt, b_nf, c_t, c_f, wVar, wVarB, wC, wOp, dI, dI0, dAdd, wNeg, wCmpV, wCmpT, dEq, dNe, dO, isNoneD, dIsN, dNotN, wAndT, wOrT, wNotT, truOk, truD, wTruT, wNotV, wAndV, wOrV, wIf, wChain, wBoolV, wIx, wNil, wCons, wTup, wLst, wN, wANil, wACons, wADr, wCall, wCallN, wgNil, wgCons, wgTup, wSeqI, seqD, wRng1, wRng2, wRng3, wCal, dAbs, dMax2, dMin2, dInt1, wCalB, dLen, isIntD, isBoolD, isStrD, isTupD, isLstD, wIsi, wLRev, wListA, dTupA, startS, spTake, List.getElem?_cons_zero, List.getElem?_cons_succ, List.getElem?_nil, List.set_cons_zero, List.set_cons_succ, List.length_cons, List.length_nil, List.replicate_succ, List.replicate_zero, List.cons_append, List.nil_append, Nat.reduceAdd, Nat.reduceSub])
local macro_rules | `(tactic| walk_at "sm") => `(tactic| try simp only [c_t, c_f, cond_dec, cond_not, ok_ii, ok_bb, ok_ss, ok_nn, ok_ni, ok_in, ok_nb, ok_bn, ok_ns, ok_sn, ok_is, ok_si, ok_bs, ok_sb, ev_ii, ev_bb, ev_ss, ev_nn, ev_ni, ev_in, ev_nb, ev_bn, ev_ns, ev_sn, ev_is, ev_si, ev_bs, ev_sb, true_and, and_true, decide_eq_true_eq, decide_eq_false_iff_not, Bool.not_eq_true', Bool.not_eq_false', Bool.not_true, Bool.not_false, Bool.false_eq_true, Bool.true_eq_false, reduceCtorEq, decide_true, decide_false, false_implies, forall_const, true_implies, not_true_eq_false, not_false_eq_true])
abbrev s_is_clear : Stmt := topS 1
theorem sc_is_clear : FnScope ["light", "sky", "noise", "k", "t", "m", "signal"] ["light", "sky", "noise", "k", "t", "m"] (defScope s_is_clear) := ⟨rfl, rfl, rfl, by decide +kernel, rfl, by decide +kernel, by decide +kernel⟩
abbrev s_least_exposure : Stmt := topS 2
theorem sc_least_exposure : FnScope ["light", "sky", "noise", "k", "m", "most", "least", "middle"] ["light", "sky", "noise", "k", "m"] (defScope s_least_exposure) := ⟨rfl, rfl, rfl, by decide +kernel, rfl, by decide +kernel, by decide +kernel⟩
abbrev s__law_draws : Stmt := topS 4
theorem sc__law_draws : FnScope ["script", "draws", "cell", "seed", "k", "number", "first"] ["script"] (defScope s__law_draws) := ⟨rfl, rfl, rfl, by decide +kernel, rfl, by decide +kernel, by decide +kernel⟩
abbrev s__law_take : Stmt := topS 5
theorem sc__law_take : FnScope ["draws", "bound"] ["draws", "bound"] (defScope s__law_take) := ⟨rfl, rfl, rfl, by decide +kernel, rfl, by decide +kernel, by decide +kernel⟩
abbrev s__law_same : Stmt := topS 6
theorem sc__law_same : FnScope ["actual", "due", "k"] ["actual", "due"] (defScope s__law_same) := ⟨rfl, rfl, rfl, by decide +kernel, rfl, by decide +kernel, by decide +kernel⟩
abbrev s__law_clear : Stmt := topS 7
theorem sc__law_clear : FnScope ["light", "sky", "noise", "k", "t", "m", "counted"] ["light", "sky", "noise", "k", "t", "m"] (defScope s__law_clear) := ⟨rfl, rfl, rfl, by decide +kernel, rfl, by decide +kernel, by decide +kernel⟩
abbrev s_law : Stmt := topS 8
theorem sc_law : FnScope ["script", "draws", "turn", "least", "t", "other", "light", "sky", "noise", "k", "m", "due"] ["script"] (defScope s_law) := ⟨rfl, rfl, rfl, by decide +kernel, rfl, by decide +kernel, by decide +kernel⟩
structure Ads where
  a_is_clear : Addr
  d_is_clear : FuncData
  a_least_exposure : Addr
  d_least_exposure : FuncData
  a__law_draws : Addr
  d__law_draws : FuncData
  a__law_take : Addr
  d__law_take : FuncData
  a__law_same : Addr
  d__law_same : FuncData
  a__law_clear : Addr
  d__law_clear : FuncData
  a_law : Addr
  d_law : FuncData
structure Txt (K : PySem.W.Frag) (mg : Str → Option Value) (A : Ads) : Prop where
  f_is_clear : Fun K "is_clear" "is_clear" s_is_clear A.a_is_clear A.d_is_clear
  m_is_clear : mg "is_clear" = some (.ref A.a_is_clear)
  b_is_clear : Binds K A.d_is_clear ["light", "sky", "noise", "k", "t", "m"] []
  f_least_exposure : Fun K "least_exposure" "least_exposure" s_least_exposure A.a_least_exposure A.d_least_exposure
  m_least_exposure : mg "least_exposure" = some (.ref A.a_least_exposure)
  b_least_exposure : Binds K A.d_least_exposure ["light", "sky", "noise", "k", "m"] []
  f__law_draws : Fun K "_law_draws" "_law_draws" s__law_draws A.a__law_draws A.d__law_draws
  m__law_draws : mg "_law_draws" = some (.ref A.a__law_draws)
  b__law_draws : Binds K A.d__law_draws ["script"] []
  f__law_take : Fun K "_law_take" "_law_take" s__law_take A.a__law_take A.d__law_take
  m__law_take : mg "_law_take" = some (.ref A.a__law_take)
  b__law_take : Binds K A.d__law_take ["draws", "bound"] []
  f__law_same : Fun K "_law_same" "_law_same" s__law_same A.a__law_same A.d__law_same
  m__law_same : mg "_law_same" = some (.ref A.a__law_same)
  b__law_same : Binds K A.d__law_same ["actual", "due"] []
  f__law_clear : Fun K "_law_clear" "_law_clear" s__law_clear A.a__law_clear A.d__law_clear
  m__law_clear : mg "_law_clear" = some (.ref A.a__law_clear)
  b__law_clear : Binds K A.d__law_clear ["light", "sky", "noise", "k", "t", "m"] []
  f_law : Fun K "law" "law" s_law A.a_law A.d_law
  m_law : mg "law" = some (.ref A.a_law)
  b_law : Binds K A.d_law ["script"] []
  n_abs : mg "abs" = none
  n_bool : mg "bool" = none
  n_int : mg "int" = none
  n_isinstance : mg "isinstance" = none
  n_len : mg "len" = none
  n_list : mg "list" = none
  n_max : mg "max" = none
  n_min : mg "min" = none
  n_range : mg "range" = none
  n_reversed : mg "reversed" = none
  n_str : mg "str" = none
  n_tuple : mg "tuple" = none
theorem bt_isinstance : bootBuiltins "isinstance" = some (.builtin "isinstance") := by decide +kernel
section
variable {P : Program} {w : World} {K : PySem.W.Frag} {mg : Str → Option Value} {base : Heap} {A : Ads}
abbrev LL : Lw := lwA []
/-- draws: any row of ints -/
def sp__law_draws : FL.Fn := fun cs q _ => match cs with
  | [.fz (.list ds)] => ∃ ns : List Int, ds = ns.map .int ∧ ns.length ≤ 63 ∧ ∀ ms : List Int, q (ms.map .int)
  | _ => False
theorem ok__law_draws (T : Txt K mg A) : FnOk P w K mg base (L2.CX P w) 1 A.a__law_draws A.d__law_draws ["script"] (SpfN K LL sp__law_draws) := by
  refine fn_flatN T.f__law_draws sc__law_draws (by intro cs q r h; unfold sp__law_draws at h; first | (obtain ⟨_, rfl, _⟩ := h; rfl) | (obtain ⟨_, _, rfl, _⟩ := h; rfl) | (split at h <;> first | rfl | exact h.elim)) (fun cdv A' outer s H E hr tk po => ?_)
  have nd := sc__law_draws.nd
  refine ⟨_, _, (fss_cons (fs_own (i := 1) nd (fn_lst fl_nil))
 (fss_cons (fs_for po rfl (fi_seq (fe_var 0)) (fg_name (i := 2) nd)
  (fss_cons (fs_set (i := 5) nd (fe_bi cal_abs T.n_abs (by decide +kernel) (fl_cons (fe_var 2) fl_nil)))
 (fss_cons (fs_if (ft_cmp cmd_lt (fb_var 5) (fb_fe (fe_pow fe_int fe_int)))
  (fss_cons (fs_set (i := 6) nd (fe_mod (fe_ty cal_int1 T.n_int (by decide +kernel) (fl_cons (fe_add (fe_mul (fe_var 5) fe_int) fe_int) fl_nil)) fe_int))
 (fss_cons (fs_app 1 (fe_mod (fe_ty cal_int1 T.n_int (by decide +kernel) (fl_cons (fe_add (fe_mul (fe_var 6) fe_int) (fe_var 5)) fl_nil)) fe_int))
 (fss_cons (fs_app 1 (fe_mod (fe_ty cal_int1 T.n_int (by decide +kernel) (fl_cons (fe_add (fe_var 6) (fe_div (fe_var 5) fe_int)) fl_nil)) fe_int))
 (fss_one (fs_set (i := 5) nd fe_int)))))
  fss_nil)
 (fss_one (fs_for po rfl (fi_rng1 T.n_range (fl_cons fe_int fl_nil)) (fg_name (i := 4) nd)
  (fss_one (fs_if (ft_cmp cmd_gt (fb_var 5) (fb_fe fe_int))
  (fss_cons (fs_app 1 (fe_mod (fe_ty cal_int1 T.n_int (by decide +kernel) (fl_cons (fe_var 5) fl_nil)) fe_int))
 (fss_one (fs_set (i := 5) nd (fe_div (fe_var 5) fe_int))))
  fss_nil)))))))
 (fss_cons (fs_set (i := 3) nd fe_int)
 (fss_cons (fs_if (ft_cmp cmd_gt (fb_fe (fe_bi1 cal_len T.n_len PySem.boot_len (fb_var 0))) (fb_fe fe_int))
  (fss_one (fs_set (i := 3) nd (fe_add fe_int (fe_bi cal_abs T.n_abs (by decide +kernel) (fl_cons (fe_ix (fb_var 0) fe_int) fl_nil)))))
  fss_nil)
 (fss_cons (fs_for po rfl (fi_rng1 T.n_range (fl_cons fe_int fl_nil)) (fg_name (i := 4) nd)
  (fss_cons (fs_set (i := 3) nd (fe_mod (fe_ty cal_int1 T.n_int (by decide +kernel) (fl_cons (fe_add (fe_mul (fe_var 3) fe_int) fe_int) fl_nil)) fe_int))
 (fss_one (fs_app 1 (fe_div (fe_var 3) fe_int)))))
 (fss_one (fs_retO (fn_listRev rfl T.n_list T.n_reversed (fb_var 1))))))))), ?_⟩
  clear hr tk po nd
  intro cs q r h
  unfold sp__law_draws at h
  split at h
  case h_2 => exact h.elim
  obtain ⟨ns, rfl, h63, h⟩ := h
  have big : ∀ {k : Nat} {zs : List Int}, zs.length ≤ k → k ≤ 5000 → (zs.map PyData.int).length < sizeLine := fun {k zs} h1 h2 => by
    rw [List.length_map]
    exact Nat.lt_of_le_of_lt (Nat.le_trans h1 h2) (by decide)
  walk_at "wp"
  refine ⟨Nat.zero_le _, fun i s' => ∃ (ms : List Int) (x2 x3 x4 x5 x6 : Cel), ms.length ≤ 62 * i ∧ s' = [.fz (.list (ns.map .int)), .ow (ms.map .int), x2, x3, x4, x5, x6], ⟨[], _, _, _, _, _, Nat.le_refl _, rfl⟩, ?_, ?_⟩
  · rintro i d s' e ⟨ms, x2, x3, x4, x5, x6, hl, rfl⟩
    have hi : i < 63 := by
      have := (List.getElem?_eq_some_iff.mp e).1
      rw [List.length_map] at this
      omega
    rw [List.getElem?_map] at e
    cases en : ns[i]? with
    | none => rw [en] at e; cases e
    | some n =>
      rw [en] at e
      cases e
      have inner : ∀ (E : En) (ms : List Int) (num : Int) (x3 x4 x6 : Cel), ms.length ≤ 62 * i + 2 → (∀ s', (∃ (ms : List Int) (x2 x3 x4 x5 x6 : Cel), ms.length ≤ 62 * (i + 1) ∧ s' = [.fz (.list (ns.map .int)), .ow (ms.map .int), x2, x3, x4, x5, x6]) → E.nx s') → wForL (wgName 4)
          (wIfS (wCmpT (dO fun i j => decide (j < i)) (wVarB 5) (wC (.int 0)))
            (wSeq (wApp 1 (wOp (dI (fun x j => 0 < j) fun i j => i % j) (wCal dInt1 (wCons (wVar 5) wNil)) (wC (.int 997))))
              (wAsg (wOp (dI (fun x j => 0 < j ∧ DivOk j) fun i j => i / j) (wVar 5) (wC (.int 997))) (wgName 5))) wNext) (rngD 0 60)
          [.fz (.list (ns.map .int)), .ow (ms.map .int), .fz (.int n), x3, x4, .fz (.int num), x6] E := by
        intro E ms num x3 x4 x6 hm hE
        refine ⟨fun j s' => ∃ (ms : List Int) (num : Int) (x4 : Cel), ms.length ≤ 62 * i + 2 + j ∧ s' = [.fz (.list (ns.map .int)), .ow (ms.map .int), .fz (.int n), x3, x4, .fz (.int num), x6], ⟨ms, num, x4, hm, rfl⟩, ?_, ?_⟩
        · rintro j d s' e ⟨ms, num, x4, hm, rfl⟩
          have hj := (rng_get e).2
          walk_at "wp"
          refine cond_of (fun _ => ⟨by decide, big (k := 62 * i + 2 + j) hm (by omega), ⟨by decide, div_s (by decide) (by decide)⟩, ms ++ [num % 997], num / 997, .fz d, by rw [List.length_append, List.length_singleton]; omega, by rw [snoc_int]⟩) (fun _ => ⟨ms, num, .fz d, by omega, rfl⟩)
        · rintro s' ⟨ms, num, x4, hm, rfl⟩
          rw [rng_len] at hm
          exact hE _ ⟨ms, _, _, _, _, _, by omega, rfl⟩
      walk_at "wp"
      refine ⟨⟨by decide, by decide, by decide⟩, cond_of (fun _ => ⟨mul_r (by decide) (by decide), by decide, mul_r (by decide) (by decide), by decide, big hl (by omega), ⟨by decide, div_s (by decide) (by decide)⟩, by decide, ?_, ⟨by decide, by decide⟩, ?_⟩) (fun _ => ⟨⟨by decide, by decide⟩, ?_⟩)⟩
      · rw [snoc_int]
        exact big (k := 62 * i + 1) (by rw [List.length_append, List.length_singleton]; omega) (by omega)
      · rw [snoc_int, snoc_int]
        exact inner _ _ _ _ _ _ (by rw [List.length_append, List.length_append, List.length_singleton, List.length_singleton]; omega) fun _ h => h
      · exact inner _ _ _ _ _ _ (by omega) fun _ h => h
  · rintro s' ⟨ms, x2, x3, x4, x5, x6, hl, rfl⟩
    rw [List.length_map] at hl
    have last : ∀ (E : En) (seed : Int) (x4 : Cel), (∀ (ms : List Int) x2 x3 x4 x5 x6, E.nx [.fz (.list (ns.map .int)), .ow (ms.map .int), x2, x3, x4, x5, x6]) → wForL (wgName 4)
          (wSeq (wAsg (wOp (dI (fun x j => 0 < j) fun i j => i % j) (wCal dInt1 (wCons (wOp dAdd (wOp (dI FL.MulOk fun i j => i * j) (wVar 3) (wC (.int 48271))) (wC (.int 69621))) wNil)) (wC (.int 2147483647))) (wgName 3))
            (wApp 1 (wOp (dI (fun x j => 0 < j ∧ DivOk j) fun i j => i / j) (wVar 3) (wC (.int 5))))) (rngD 0 900)
          [.fz (.list (ns.map .int)), .ow (ms.map .int), x2, .fz (.int seed), x4, x5, x6] E := by
      intro E seed x4 hE
      refine ⟨fun j s' => ∃ (ms : List Int) (seed : Int) (x4 : Cel), ms.length ≤ 3906 + j ∧ s' = [.fz (.list (ns.map .int)), .ow (ms.map .int), x2, .fz (.int seed), x4, x5, x6], ⟨ms, seed, x4, by omega, rfl⟩, ?_, ?_⟩
      · rintro j d s' e ⟨ms, seed, x4, hm, rfl⟩
        have hj := (rng_get e).2
        walk_at "wp"
        refine ⟨mul_r (by decide) (by decide), by decide, ⟨by decide, div_s (by decide) (by decide)⟩, big hm (by omega), ms ++ [(seed * 48271 + 69621) % 2147483647 / 5], (seed * 48271 + 69621) % 2147483647, .fz d, by rw [List.length_append, List.length_singleton]; omega, by rw [snoc_int]⟩
      · rintro s' ⟨ms, seed, x4, hm, rfl⟩
        exact hE _ _ _ _ _ _
    have fin : ∀ (ms : List Int), q (ms.map PyData.int).reverse := fun ms => by
      rw [← List.map_reverse]
      exact h _
    walk_at "wp"
    refine cond_of (fun hc => ?_) (fun _ => ⟨⟨by decide, by decide⟩, last _ _ _ fun ms _ _ _ _ _ => fin ms⟩)
    cases ns with
    | nil => exact absurd hc (by decide)
    | cons n ns =>
      exact ix_int (d := .int n) (by decide) rfl ⟨⟨by decide, by decide⟩, last _ _ _ fun ms _ _ _ _ _ => fin ms⟩
theorem ok__law_take (T : Txt K mg A) : FnOk P w K mg base (L2.CX P w) 1 A.a__law_take A.d__law_take ["draws", "bound"] (Spf K LL spTake) :=
  fn_take T.f__law_take sc__law_take T.n_len T.n_int (fun X hm hs hN => by
    have nl := (congrFun hm ("len" : Str)).trans T.n_len
    have ni := (congrFun hm ("int" : Str)).trans T.n_int
    have gl : Gl X "len" := (congrArg (fun z : Scope => z.names.lookup ("len" : Str)) hs).trans rfl
    have gi : Gl X "int" := (congrArg (fun z : Scope => z.names.lookup ("int" : Str)) hs).trans rfl
    have s0 : X.N[0]? = some ("draws" : Str) := by rw [hN]; rfl
    have s1 : X.N[1]? = some ("bound" : Str) := by rw [hN]; rfl
    have v0 : Vis X.env.scope "draws" := .inl ((congrArg (fun z : Scope => z.names.lookup ("draws" : Str)) hs).trans rfl)
    have v1 : Vis X.env.scope "bound" := .inl ((congrArg (fun z : Scope => z.names.lookup ("bound" : Str)) hs).trans rfl)
    exact pss_cons (ps_if (pt_cmpR op_eq (pe_callB call_len gl nl PySem.boot_len (pa_cons (pe_var s0 v0) pa_nil)) pe_int (nomark _)) (pss_one (ps_ret pe_int)) pss_nil)
      (pss_one (ps_ret (pe_op op_mod (pe_callTy call_int1 gi ni (by decide +kernel) (pa_cons (pe_bm0 PySem.F.plainAttrs_list PySem.F.slot_list_pop PySem.F.type_list_pop mt_pop (pe_var s0 v0)) pa_nil)) (pe_var s1 v1)))))
/-- data that == and isinstance tell apart as data, of depth at most n -/
def okS : Nat → D → Prop
  | _, .dict _ => False
  | 0, .list _ => False
  | 0, .tuple _ => False
  | n + 1, .list xs => xs.length ≤ sizeLine ∧ ∀ x ∈ xs, okS n x
  | n + 1, .tuple xs => xs.length ≤ sizeLine ∧ ∀ x ∈ xs, okS n x
  | _, _ => True
/-- the same, told the same -/
def sp__law_same (n : Nat) : Fs := fun cs q _ => ∃ d, cs = [.fz d, .fz d] ∧ okS n d ∧ q (.bool true)
def spi__law_same : Nat → Fs
  | 0 => fun _ _ _ => False
  | n + 1 => sp__law_same n
theorem st__law_same (T : Txt K mg A) (n : Nat) (G : FnOk P w K mg base (L2.CX P w) (0 + n) A.a__law_same A.d__law_same ["actual", "due"] (Spf K LL (spi__law_same n))) : FnOk P w K mg base (L2.CX P w) (0 + n + 1) A.a__law_same A.d__law_same ["actual", "due"] (Spf K LL (sp__law_same n)) := by
  refine fn_flat T.f__law_same sc__law_same (by intro cs q r h; unfold sp__law_same at h; first | (obtain ⟨_, rfl, _⟩ := h; rfl) | (obtain ⟨_, _, rfl, _⟩ := h; rfl) | (split at h <;> first | rfl | exact h.elim)) (fun cdv A' outer s H E hr tk po => ?_)
  have nd := sc__law_same.nd
  refine ⟨_, _, (fss_cons (fs_if (ft_w (fw_or (ft_cmp cmd_is (fb_var 1) (fb_fe fe_non)) (fw_or1 (ft_cmp cmd_is (fb_var 0) (fb_fe fe_non)))))
  (fss_one (fs_ret (fe_andV (fe_cmp cmd_is (fb_var 1) (fb_fe fe_non)) (fe_one (fe_cmp cmd_is (fb_var 0) (fb_fe fe_non))))))
  fss_nil)
 (fss_cons (fs_if (ft_w (fw_or (ft_truth (fb_fe (fe_isi isi_tup T.n_isinstance bt_isinstance T.n_tuple (by decide +kernel) (fb_var 1)))) (fw_or1 (ft_truth (fb_fe (fe_isi isi_lst T.n_isinstance bt_isinstance T.n_list (by decide +kernel) (fb_var 1)))))))
  (fss_cons (fs_if (ft_w (fw_or (ft_cmp (cmd_ne hr) (fb_fe (fe_isi isi_tup T.n_isinstance bt_isinstance T.n_tuple (by decide +kernel) (fb_var 1))) (fb_fe (fe_isi isi_tup T.n_isinstance bt_isinstance T.n_tuple (by decide +kernel) (fb_var 0)))) (fw_or1 (ft_cmp (cmd_ne hr) (fb_fe (fe_isi isi_lst T.n_isinstance bt_isinstance T.n_list (by decide +kernel) (fb_var 1))) (fb_fe (fe_isi isi_lst T.n_isinstance bt_isinstance T.n_list (by decide +kernel) (fb_var 0)))))))
  (fss_one (fs_ret fe_bl))
  fss_nil)
 (fss_cons (fs_if (ft_cmp (cmd_ne hr) (fb_fe (fe_bi1 cal_len T.n_len PySem.boot_len (fb_var 0))) (fb_fe (fe_bi1 cal_len T.n_len PySem.boot_len (fb_var 1))))
  (fss_one (fs_ret fe_bl))
  fss_nil)
 (fss_cons (fs_for po rfl (fi_rng1 T.n_range (fl_cons (fe_bi1 cal_len T.n_len PySem.boot_len (fb_var 1)) fl_nil)) (fg_name (i := 2) nd)
  (fss_one (fs_if (ft_not (ft_truth (fb_fe (fe_call G hr tk rfl T.m__law_same T.f__law_same.kp T.b__law_same (fa_cons (fe_ix (fb_var 0) (fe_var 2)) (fa_cons (fe_ix (fb_var 1) (fe_var 2)) fa_nil))))))
  (fss_one (fs_ret fe_bl))
  fss_nil)))
 (fss_one (fs_ret fe_bl)))))
  fss_nil)
 (fss_cons (fs_if (ft_cmp (cmd_ne hr) (fb_fe (fe_isi isi_bool T.n_isinstance bt_isinstance T.n_bool (by decide +kernel) (fb_var 1))) (fb_fe (fe_isi isi_bool T.n_isinstance bt_isinstance T.n_bool (by decide +kernel) (fb_var 0))))
  (fss_one (fs_ret fe_bl))
  fss_nil)
 (fss_cons (fs_if (ft_w (fw_or (ft_cmp (cmd_ne hr) (fb_fe (fe_isi isi_int T.n_isinstance bt_isinstance T.n_int (by decide +kernel) (fb_var 1))) (fb_fe (fe_isi isi_int T.n_isinstance bt_isinstance T.n_int (by decide +kernel) (fb_var 0)))) (fw_or1 (ft_cmp (cmd_ne hr) (fb_fe (fe_isi isi_str T.n_isinstance bt_isinstance T.n_str (by decide +kernel) (fb_var 1))) (fb_fe (fe_isi isi_str T.n_isinstance bt_isinstance T.n_str (by decide +kernel) (fb_var 0)))))))
  (fss_one (fs_ret fe_bl))
  fss_nil)
 (fss_one (fs_ret (fe_cmp (cmd_eq hr) (fb_var 0) (fb_var 1)))))))), ?_⟩
  clear hr tk po nd G
  rintro cs q r ⟨d, rfl, hd, h⟩
  have fin : ∀ (ds : List D) (m : Nat), (ds.length ≤ sizeLine ∧ ∀ x ∈ ds, okS m x) → m + 1 = n → ∀ (a : D) (E : En) (x : Cel), (a = .list ds ∨ a = .tuple ds) → (∀ x, E.nx [.fz a, .fz a, x]) → wForL (wgName 2)
      (wIfS (wNotT (wTruT (wCall (spi__law_same n) (wACons (wIx (wVarB 0) (wVar 2)) (wACons (wIx (wVarB 1) (wVar 2)) wANil))))) (wRet (wC (.bool false))) wNext) (rngD 0 ds.length) [.fz a, .fz a, x] E := by
    intro ds m hm hn a E x ha hE
    refine ⟨fun j s' => ∃ x, s' = [.fz a, .fz a, x], ⟨x, rfl⟩, ?_, ?_⟩
    · rintro j d s' e ⟨x, rfl⟩
      obtain ⟨rfl, hj⟩ := rng_get0 e
      subst hn
      have hd : ds[j]? = some ds[j] := List.getElem?_eq_getElem hj
      rcases ha with rfl | rfl
      all_goals
        walk_at "wp"
        exact ix_nat hd (ix_nat hd ⟨_, rfl, hm.2 _ (List.mem_of_getElem? hd), trivial, ⟨_, rfl⟩⟩)
    · rintro s' ⟨x, rfl⟩
      exact hE x
  cases d with
  | dict _ => cases n <;> exact hd.elim
  | list xs =>
    cases n with
    | zero => exact hd.elim
    | succ n =>
      walk_at "wp"
      walk_at "sm"
      rw [Int.toNat_natCast]
      exact ⟨rg_len hd.1, fin xs n hd rfl _ _ _ (.inl rfl) fun x => h⟩
  | tuple xs =>
    cases n with
    | zero => exact hd.elim
    | succ n =>
      walk_at "wp"
      walk_at "sm"
      rw [Int.toNat_natCast]
      exact ⟨rg_len hd.1, fin xs n hd rfl _ _ _ (.inr rfl) fun x => h⟩
  | _ =>
    walk_at "wp"
    walk_at "sm"
    exact h
theorem ok__law_same (T : Txt K mg A) : ∀ n : Nat, FnOk P w K mg base (L2.CX P w) (0 + n + 1) A.a__law_same A.d__law_same ["actual", "due"] (Spf K LL (sp__law_same n))
  | 0 => st__law_same T 0 fnok_false
  | n + 1 => st__law_same T (n + 1) (ok__law_same T n)
/-- clear as the words say -/
def clr (l s n k t m : Int) : Bool := decide (k * k * (l * t + s * t + n * m) ≤ l * t * (l * t))
def Bd (l s n k t m : Int) : Prop := 0 ≤ l ∧ l < 2 ^ 24 ∧ 0 ≤ s ∧ s < 2 ^ 24 ∧ 0 ≤ n ∧ n < 2 ^ 24 ∧ 0 ≤ k ∧ k < 2 ^ 24 ∧ 0 ≤ t ∧ t < 2 ^ 24 ∧ 0 ≤ m ∧ m < 2 ^ 24
theorem mul_sm {a b : Int} (h1 : 0 ≤ a) (h2 : a < 2 ^ 24) (h3 : 0 ≤ b) (h4 : b < 2 ^ 24) : 0 ≤ a * b ∧ a * b < 2 ^ 50 := by
  refine ⟨Int.mul_nonneg h1 h3, ?_⟩
  have := Int.mul_le_mul (Int.le_of_lt h2) (Int.le_of_lt h4) h3 (by decide)
  exact Int.lt_of_le_of_lt this (by decide)
def sp_is_clear : Fs := fun cs q _ => match cs with
  | [.fz (.int l), .fz (.int s), .fz (.int n), .fz (.int k), .fz (.int t), .fz (.int m)] => Bd l s n k t m ∧ q (.bool (clr l s n k t m))
  | _ => False
theorem ok_is_clear (T : Txt K mg A) : FnOk P w K mg base (L2.CX P w) 1 A.a_is_clear A.d_is_clear ["light", "sky", "noise", "k", "t", "m"] (Spf K LL sp_is_clear) := by
  refine fn_flat T.f_is_clear sc_is_clear (by intro cs q r h; unfold sp_is_clear at h; first | (obtain ⟨_, rfl, _⟩ := h; rfl) | (obtain ⟨_, _, rfl, _⟩ := h; rfl) | (split at h <;> first | rfl | exact h.elim)) (fun cdv A' outer s H E hr tk po => ?_)
  have nd := sc_is_clear.nd
  refine ⟨_, _, (fss_cons (fs_set (i := 6) nd (fe_mul (fe_var 0) (fe_var 4)))
 (fss_one (fs_ret (fe_cmp cmd_ge (fb_fe (fe_mul (fe_var 6) (fe_var 6))) (fb_fe (fe_mul (fe_mul (fe_var 3) (fe_var 3)) (fe_add (fe_add (fe_var 6) (fe_mul (fe_var 1) (fe_var 4))) (fe_mul (fe_var 2) (fe_var 5))))))))), ?_⟩
  clear hr tk po nd
  intro cs q r h
  unfold sp_is_clear at h
  split at h
  case h_2 => exact h.elim
  rename_i l s n k t m
  obtain ⟨⟨l0, l1, s0, s1, n0, n1, k0, k1, t0, t1, m0, m1⟩, h⟩ := h
  have lt := mul_sm l0 l1 t0 t1
  have kk := mul_sm k0 k1 k0 k1
  walk_at "wp"
  refine ⟨mul_l (by omega) (by omega), mul_l (by omega) (by omega), mul_l (by omega) (by omega), mul_l (by omega) (by omega), mul_l (by omega) (by omega), mul_l (by omega) (by omega), h⟩
def sp__law_clear : Fs := fun cs q _ => match cs with
  | [.fz (.int l), .fz (.int s), .fz (.int n), .fz (.int k), .fz (.int t), .fz (.int m)] => Bd l s n k t m ∧ q (.bool (clr l s n k t m))
  | _ => False
theorem ok__law_clear (T : Txt K mg A) : FnOk P w K mg base (L2.CX P w) 1 A.a__law_clear A.d__law_clear ["light", "sky", "noise", "k", "t", "m"] (Spf K LL sp__law_clear) := by
  refine fn_flat T.f__law_clear sc__law_clear (by intro cs q r h; unfold sp__law_clear at h; first | (obtain ⟨_, rfl, _⟩ := h; rfl) | (obtain ⟨_, _, rfl, _⟩ := h; rfl) | (split at h <;> first | rfl | exact h.elim)) (fun cdv A' outer s H E hr tk po => ?_)
  have nd := sc__law_clear.nd
  refine ⟨_, _, (fss_cons (fs_set (i := 6) nd (fe_add (fe_mul (fe_var 0) (fe_var 4)) (fe_mul (fe_var 1) (fe_var 4))))
 (fss_one (fs_ret (fe_cmp cmd_ge (fb_fe (fe_sub (fe_mul (fe_mul (fe_mul (fe_var 0) (fe_var 0)) (fe_var 4)) (fe_var 4)) (fe_mul (fe_mul (fe_var 3) (fe_var 3)) (fe_add (fe_var 6) (fe_mul (fe_var 2) (fe_var 5)))))) (fb_fe fe_int))))), ?_⟩
  clear hr tk po nd
  intro cs q r h
  unfold sp__law_clear at h
  split at h
  case h_2 => exact h.elim
  rename_i l s n k t m
  obtain ⟨⟨l0, l1, s0, s1, n0, n1, k0, k1, t0, t1, m0, m1⟩, h⟩ := h
  have lt := mul_sm l0 l1 t0 t1
  have kk := mul_sm k0 k1 k0 k1
  walk_at "wp"
  have e : decide (0 ≤ l * l * t * t - k * k * (l * t + s * t + n * m)) = clr l s n k t m := decide_eq_decide.mpr ⟨fun h => by grind, fun h => by grind⟩
  rw [e]
  refine ⟨mul_l (by omega) (by omega), mul_l (by omega) (by omega), mul_l (by omega) (by omega), mul_r (by omega) (by omega), mul_r (by omega) (by omega), mul_l (by omega) (by omega), mul_l (by omega) (by omega), mul_l (by omega) (by omega), h⟩
theorem clr_iff {l s n k t m : Int} : clr l s n k t m = true ↔ k * k * (l * t + s * t + n * m) ≤ l * t * (l * t) := decide_eq_true_iff
/-- in plain sums: A t + B ≤ C t t -/
theorem clr_abc {l s n k t m : Int} : clr l s n k t m = true ↔ (k * k * (l + s)) * t + k * k * (n * m) ≤ (l * l) * (t * t) := by
  rw [clr_iff]
  constructor <;> intro h <;> grind
theorem abc_up {A B C t : Int} (hA : 0 ≤ A) (hB : 0 ≤ B) (hC : 0 ≤ C) (ht : 1 ≤ t) (h : A * t + B ≤ C * (t * t)) : ∀ n : Nat, A * (t + n) + B ≤ C * ((t + n) * (t + n)) := by
  intro n
  have h1 : A ≤ C * t := by
    have : A * t ≤ (C * t) * t := by grind
    exact Int.le_of_mul_le_mul_right this (by omega)
  have e : C * ((t + n) * (t + n)) = C * (t * t) + (C * t) * n + (C * t) * n + C * (n * n) := by grind
  have e2 : A * (t + n) = A * t + A * n := by grind
  have h2 : A * n ≤ (C * t) * n := Int.mul_le_mul_of_nonneg_right h1 (by omega)
  have h3 : 0 ≤ (C * t) * n := Int.mul_nonneg (Int.mul_nonneg hC (by omega)) (by omega)
  have h4 : 0 ≤ C * ((n : Int) * n) := Int.mul_nonneg hC (Int.mul_nonneg (by omega) (by omega))
  omega
theorem clr_up {l s n k t t' m : Int} (hl : 0 ≤ l) (hs : 0 ≤ s) (hn : 0 ≤ n) (hk : 0 ≤ k) (hm : 0 ≤ m) (ht : 1 ≤ t) (htt : t ≤ t') (h : clr l s n k t m = true) : clr l s n k t' m = true := by
  rw [clr_abc] at h ⊢
  have := abc_up (Int.mul_nonneg (Int.mul_nonneg hk hk) (by omega)) (Int.mul_nonneg (Int.mul_nonneg hk hk) (Int.mul_nonneg hn hm)) (Int.mul_nonneg hl hl) ht h (t' - t).toNat
  rw [Int.toNat_of_nonneg (by omega)] at this
  rw [show t + (t' - t) = t' by omega] at this
  exact this
/-- more of sky, noise, factor, number: never clearer -/
theorem clr_dn {l s n k t m s' n' k' m' : Int} (hl : 0 ≤ l) (hs : 0 ≤ s) (hn : 0 ≤ n) (hk : 0 ≤ k) (hm : 0 ≤ m) (ht : 0 ≤ t) (h1 : s ≤ s') (h2 : n ≤ n') (h3 : k ≤ k') (h4 : m ≤ m') (h : clr l s' n' k' t m' = true) : clr l s n k t m = true := by
  rw [clr_iff] at h ⊢
  have a1 : k * k ≤ k' * k' := Int.mul_le_mul h3 h3 hk (by omega)
  have a2 : s * t ≤ s' * t := Int.mul_le_mul_of_nonneg_right h1 ht
  have a3 : n * m ≤ n' * m' := Int.mul_le_mul h2 h4 hm (by omega)
  have a4 : 0 ≤ l * t + s * t + n * m := by
    have := Int.mul_nonneg hl ht; have := Int.mul_nonneg hs ht; have := Int.mul_nonneg hn hm; omega
  have := Int.mul_le_mul a1 (show l * t + s * t + n * m ≤ l * t + s' * t + n' * m' by omega) a4 (Int.mul_nonneg (by omega) (by omega))
  omega
/-- more light: never less clear -/
theorem clr_light {l s n k t m l' : Int} (hl : 1 ≤ l) (hs : 0 ≤ s) (hn : 0 ≤ n) (hk : 0 ≤ k) (hm : 0 ≤ m) (ht : 0 ≤ t) (h1 : l ≤ l') (h : clr l s n k t m = true) : clr l' s n k t m = true := by
  rw [clr_iff] at h ⊢
  have a1 : l * t ≤ l' * t := Int.mul_le_mul_of_nonneg_right h1 ht
  have hkk : 0 ≤ k * k := Int.mul_nonneg hk hk
  have hst : 0 ≤ s * t := Int.mul_nonneg hs ht
  have hnm : 0 ≤ n * m := Int.mul_nonneg hn hm
  rcases Int.lt_or_eq_of_le ht with hp | hz
  · have hS : 1 ≤ l * t := by have := Int.mul_le_mul hl hp (by decide) (by omega); omega
    have := abc_up (A := k * k) (B := k * k * (s * t + n * m)) (C := 1) (t := l * t) hkk (Int.mul_nonneg hkk (by omega)) (by decide) hS (by grind) (l' * t - l * t).toNat
    rw [Int.toNat_of_nonneg (by omega), show l * t + (l' * t - l * t) = l' * t by omega] at this
    grind
  · subst hz
    simpa using h
/-- the greatest of all is clear -/
theorem clr_top {l s n k m : Int} (l1 : 1 ≤ l) (l2 : l ≤ 1001) (s1 : 0 ≤ s) (s2 : s ≤ 1001) (n1 : 0 ≤ n) (n2 : n ≤ 10009) (k1 : 1 ≤ k) (k2 : k ≤ 20) (m1 : 1 ≤ m) (m2 : m ≤ 20) : clr l s n k (2 ^ 20) m = true :=
  clr_dn (by omega) s1 n1 (by omega) (by omega) (by decide) s2 n2 k2 m2 (clr_light (l := 1) (by decide) (by decide) (by decide) (by decide) (by decide) (by decide) l1 (by decide))
def Arg (l s n k m : Int) : Prop := 1 ≤ l ∧ l ≤ 1001 ∧ 0 ≤ s ∧ s ≤ 1001 ∧ 0 ≤ n ∧ n ≤ 10009 ∧ 1 ≤ k ∧ k ≤ 20 ∧ 1 ≤ m ∧ m ≤ 20
def Least (l s n k m L : Int) : Prop := 1 ≤ L ∧ L ≤ 2 ^ 20 ∧ clr l s n k L m = true ∧ (1 < L → clr l s n k (L - 1) m = false)
def sp_least_exposure : Fs := fun cs q _ => match cs with
  | [.fz (.int l), .fz (.int s), .fz (.int n), .fz (.int k), .fz (.int m)] => Arg l s n k m ∧ ∀ L, Least l s n k m L → q (.int L)
  | _ => False
theorem p2_up {a b : Nat} (h : a ≤ b) : (2 : Int) ^ a ≤ 2 ^ b := by
  have := Nat.pow_le_pow_right (show 2 > 0 by decide) h
  exact_mod_cast this
local macro_rules | `(tactic| walk_at "wp") => `(tactic| try dsimp only [u_seq, u_next, u_drop, u_ret, u_retO, u_ifS, u_asg, u_setO, u_par, u_par3, u_aug, u_for, u_app, u_fix, u_gname, b_nt, b_nf, c_t, c_f, wVar, wVarB, wC, wOp, dI, dI0, dAdd, wNeg, wCmpV, wCmpT, dEq, dNe, dO, isNoneD, dIsN, dNotN, wAndT, wOrT, wNotT, truOk, truD, wTruT, wNotV, wAndV, wOrV, wIf, wChain, wBoolV, wIx, wNil, wCons, wTup, wLst, wN, wANil, wACons, wADr, wCall, wCallN, wgNil, wgCons, wgTup, wSeqI, seqD, wRng1, wRng2, wRng3, wCal, dAbs, dMax2, dMin2, dInt1, wCalB, dLen, isIntD, isBoolD, isStrD, isTupD, isLstD, wIsi, wLRev, wListA, dTupA, startS, spTake, List.getElem?_cons_zero, List.getElem?_cons_succ, List.getElem?_nil, List.set_cons_zero, List.set_cons_succ, List.length_cons, List.length_nil, List.replicate_succ, List.replicate_zero, List.cons_append, List.nil_append, Nat.reduceAdd, Nat.reduceSub, sp_is_clear])
theorem ok_least_exposure (T : Txt K mg A) : FnOk P w K mg base (L2.CX P w) 2 A.a_least_exposure A.d_least_exposure ["light", "sky", "noise", "k", "m"] (Spf K LL sp_least_exposure) := by
  refine fn_flat T.f_least_exposure sc_least_exposure (by intro cs q r h; unfold sp_least_exposure at h; first | (obtain ⟨_, rfl, _⟩ := h; rfl) | (obtain ⟨_, _, rfl, _⟩ := h; rfl) | (split at h <;> first | rfl | exact h.elim)) (fun cdv A' outer s H E hr tk po => ?_)
  have nd := sc_least_exposure.nd
  refine ⟨_, _, (fss_cons (fs_set (i := 5) nd fe_int)
 (fss_cons (fs_while po (ft_not (ft_truth (fb_fe (fe_call (ok_is_clear T) (hr.mono (by decide)) tk rfl T.m_is_clear T.f_is_clear.kp T.b_is_clear (fa_cons (fe_var 0) (fa_cons (fe_var 1) (fa_cons (fe_var 2) (fa_cons (fe_var 3) (fa_cons (fe_var 5) (fa_cons (fe_var 4) fa_nil))))))))))
  (fss_one (fs_aug (i := 5) aug_mul nd fe_int)))
 (fss_cons (fs_set (i := 6) nd fe_int)
 (fss_cons (fs_while po (ft_cmp cmd_gt (fb_fe (fe_sub (fe_var 5) (fe_var 6))) (fb_fe fe_int))
  (fss_cons (fs_set (i := 7) nd (fe_div (fe_add (fe_var 6) (fe_var 5)) fe_int))
 (fss_one (fs_if (ft_truth (fb_fe (fe_call (ok_is_clear T) (hr.mono (by decide)) tk rfl T.m_is_clear T.f_is_clear.kp T.b_is_clear (fa_cons (fe_var 0) (fa_cons (fe_var 1) (fa_cons (fe_var 2) (fa_cons (fe_var 3) (fa_cons (fe_var 7) (fa_cons (fe_var 4) fa_nil)))))))))
  (fss_one (fs_set (i := 5) nd (fe_var 7)))
  (fss_one (fs_set (i := 6) nd (fe_var 7)))))))
 (fss_one (fs_ret (fe_var 5))))))), ?_⟩
  clear hr tk po nd
  intro cs q r h
  unfold sp_least_exposure at h
  split at h
  case h_2 => exact h.elim
  rename_i l s n k m
  obtain ⟨⟨l1, l2, s1, s2, n1, n2, k1, k2, m1, m2⟩, h⟩ := h
  have top := clr_top l1 l2 s1 s2 n1 n2 k1 k2 m1 m2
  have bd : ∀ t : Int, 0 ≤ t → t ≤ 2 ^ 20 → Bd l s n k t m := fun t h1 h2 => ⟨by omega, by omega, by omega, by omega, by omega, by omega, by omega, by omega, by omega, by omega, by omega, by omega⟩
  walk_at "wp"
  refine ⟨fun u s' => ∃ (j : Nat), j ≤ 20 ∧ u = 20 - j ∧ s' = [.fz (.int l), .fz (.int s), .fz (.int n), .fz (.int k), .fz (.int m), .fz (.int (2 ^ j)), .no, .no], ⟨20, 0, by decide, rfl, rfl⟩, ?_⟩
  rintro u s' ⟨j, hj, rfl, rfl⟩
  have hj2 := p2_up hj
  have hj0 : (0 : Int) < 2 ^ j := Int.pow_pos (by decide)
  walk_at "wp"
  refine ⟨bd _ (by omega) hj2, trivial, cond_of (fun hc => ?_) (fun hc => ?_)⟩
  · have hne : j ≠ 20 := fun z => by subst z; rw [top] at hc; exact absurd hc (by decide)
    refine ⟨mul_r (by decide) (by decide), 20 - (j + 1), by omega, j + 1, by omega, rfl, ?_⟩
    rw [Int.pow_succ]
  · have hc : clr l s n k (2 ^ j) m = true := by simpa [truD] using hc
    refine ⟨fun u s' => ∃ (a b : Int) (x : Cel), 0 ≤ a ∧ a < b ∧ b ≤ 2 ^ 20 ∧ u = (b - a).toNat ∧ clr l s n k b m = true ∧ (1 ≤ a → clr l s n k a m = false) ∧ s' = [.fz (.int l), .fz (.int s), .fz (.int n), .fz (.int k), .fz (.int m), .fz (.int b), .fz (.int a), x], ⟨_, 0, 2 ^ j, .no, by decide, hj0, hj2, rfl, hc, fun z => absurd z (by decide), rfl⟩, ?_⟩
    rintro u s' ⟨a, b, x, ha, hab, hb, rfl, hcb, hca, rfl⟩
    walk_at "wp"
    refine cond_of (fun hd => ?_) (fun hd => ?_)
    · have hd : 1 < b - a := of_decide_eq_true hd
      refine ⟨⟨by decide, div_s (by decide) (by decide)⟩, bd _ (by omega) (by omega), trivial, cond_of (fun ht => ?_) (fun ht => ?_)⟩
      · exact ⟨_, by omega, a, _, _, ha, by omega, by omega, rfl, ht, hca, rfl⟩
      · exact ⟨_, by omega, _, b, _, by omega, by omega, by omega, rfl, hcb, fun _ => ht, rfl⟩
    · have hd : ¬ 1 < b - a := of_decide_eq_false hd
      have e : b = a + 1 := by omega
      subst e
      exact h _ ⟨by omega, hb, hcb, fun z => by rw [show a + 1 - 1 = a by omega]; exact hca (by omega)⟩
local macro_rules | `(tactic| walk_at "wp") => `(tactic| try dsimp only [u_seq, u_next, u_drop, u_ret, u_retO, u_ifS, u_asg, u_setO, u_par, u_par3, u_aug, u_for, u_app, u_fix, u_gname, b_nt, b_nf, c_t, c_f, wVar, wVarB, wC, wOp, dI, dI0, dAdd, wNeg, wCmpV, wCmpT, dEq, dNe, dO, isNoneD, dIsN, dNotN, wAndT, wOrT, wNotT, truOk, truD, wTruT, wNotV, wAndV, wOrV, wIf, wChain, wBoolV, wIx, wNil, wCons, wTup, wLst, wN, wANil, wACons, wADr, wCall, wCallN, wgNil, wgCons, wgTup, wSeqI, seqD, wRng1, wRng2, wRng3, wCal, dAbs, dMax2, dMin2, dInt1, wCalB, dLen, isIntD, isBoolD, isStrD, isTupD, isLstD, wIsi, wLRev, wListA, dTupA, startS, spTake, List.getElem?_cons_zero, List.getElem?_cons_succ, List.getElem?_nil, List.set_cons_zero, List.set_cons_succ, List.length_cons, List.length_nil, List.replicate_succ, List.replicate_zero, List.cons_append, List.nil_append, Nat.reduceAdd, Nat.reduceSub, sp__law_draws, sp_least_exposure, sp__law_clear, sp__law_same, sp_is_clear])
theorem ok_law (T : Txt K mg A) : FnOk P w K mg base (L2.CX P w) 3 A.a_law A.d_law ["script"] (spLaw K LL) := by
  refine fn_law (i := 1) T.f_law sc_law rfl (fun cdv A' outer s H E hr tk po => ?_)
  have nd := sc_law.nd
  refine ⟨_, _, _, _, FS.pe (L := LL) (W := fun cls d _ H => E cls d H) (fs_own (i := 1) nd (fn_call (ok__law_draws T) (hr.mono (by decide)) tk rfl T.m__law_draws T.f__law_draws.kp T.b__law_draws (fa_cons (fe_var 0) fa_nil))), (fn_call (ok__law_draws T) (hr.mono (by decide)) tk rfl T.m__law_draws T.f__law_draws.kp T.b__law_draws (fa_cons (fe_var 0) fa_nil)),
 (fss_cons (fs_for po rfl (fi_rng1 T.n_range (fl_cons fe_int fl_nil)) (fg_name (i := 2) nd)
  (fss_cons (fs_par (i := 6) (j := 7) rfl nd (fl_cons (fe_add fe_int (fe_call (ok__law_take T) (hr.mono (by decide)) tk rfl T.m__law_take T.f__law_take.kp T.b__law_take (fa_dr 1 (fa_cons (fe_ix (fb_fe (fe_n (fn_lst (fl_cons fe_int (fl_cons fe_int fl_nil))))) (fe_call (ok__law_take T) (hr.mono (by decide)) tk rfl T.m__law_take T.f__law_take.kp T.b__law_take (fa_dr 1 (fa_cons fe_int fa_nil)))) fa_nil)))) (fl_cons (fe_call (ok__law_take T) (hr.mono (by decide)) tk rfl T.m__law_take T.f__law_take.kp T.b__law_take (fa_dr 1 (fa_cons (fe_ix (fb_fe (fe_n (fn_lst (fl_cons fe_int (fl_cons fe_int fl_nil))))) (fe_call (ok__law_take T) (hr.mono (by decide)) tk rfl T.m__law_take T.f__law_take.kp T.b__law_take (fa_dr 1 (fa_cons fe_int fa_nil)))) fa_nil))) fl_nil)))
 (fss_cons (fs_par3 (i := 8) (j := 9) (l := 10) rfl nd (fl_cons (fe_call (ok__law_take T) (hr.mono (by decide)) tk rfl T.m__law_take T.f__law_take.kp T.b__law_take (fa_dr 1 (fa_cons (fe_ix (fb_fe (fe_n (fn_lst (fl_cons fe_int (fl_cons fe_int fl_nil))))) (fe_call (ok__law_take T) (hr.mono (by decide)) tk rfl T.m__law_take T.f__law_take.kp T.b__law_take (fa_dr 1 (fa_cons fe_int fa_nil)))) fa_nil))) (fl_cons (fe_add fe_int (fe_call (ok__law_take T) (hr.mono (by decide)) tk rfl T.m__law_take T.f__law_take.kp T.b__law_take (fa_dr 1 (fa_cons fe_int fa_nil)))) (fl_cons (fe_add fe_int (fe_call (ok__law_take T) (hr.mono (by decide)) tk rfl T.m__law_take T.f__law_take.kp T.b__law_take (fa_dr 1 (fa_cons fe_int fa_nil)))) fl_nil))))
 (fss_cons (fs_set (i := 3) nd (fe_call (ok_least_exposure T) (hr.mono (by decide)) tk rfl T.m_least_exposure T.f_least_exposure.kp T.b_least_exposure (fa_cons (fe_var 6) (fa_cons (fe_var 7) (fa_cons (fe_var 8) (fa_cons (fe_var 9) (fa_cons (fe_var 10) fa_nil)))))))
 (fss_cons (fs_if (ft_w (fw_or (ft_not (ft_truth (fb_fe (fe_isi isi_int T.n_isinstance bt_isinstance T.n_int (by decide +kernel) (fb_var 3))))) (fw_or (ft_cmp cmd_lt (fb_var 3) (fb_fe fe_int)) (fw_or (ft_not (ft_truth (fb_fe (fe_call (ok__law_clear T) (hr.mono (by decide)) tk rfl T.m__law_clear T.f__law_clear.kp T.b__law_clear (fa_cons (fe_var 6) (fa_cons (fe_var 7) (fa_cons (fe_var 8) (fa_cons (fe_var 9) (fa_cons (fe_var 3) (fa_cons (fe_var 10) fa_nil)))))))))) (fw_or1 (ft_w (fw_and (ft_cmp cmd_gt (fb_var 3) (fb_fe fe_int)) (fw_and1 (ft_truth (fb_fe (fe_call (ok__law_clear T) (hr.mono (by decide)) tk rfl T.m__law_clear T.f__law_clear.kp T.b__law_clear (fa_cons (fe_var 6) (fa_cons (fe_var 7) (fa_cons (fe_var 8) (fa_cons (fe_var 9) (fa_cons (fe_sub (fe_var 3) fe_int) (fa_cons (fe_var 10) fa_nil)))))))))))))))))
  (fss_one (fs_ret fe_bl))
  fss_nil)
 (fss_cons (fs_for po rfl (fi_seq (fe_n (fn_lst (fl_cons (fe_var 3) (fl_cons (fe_add (fe_var 3) fe_int) (fl_cons (fe_bi (cal_max2 rfl) T.n_max (by decide +kernel) (fl_cons fe_int (fl_cons (fe_sub (fe_var 3) fe_int) fl_nil))) (fl_cons (fe_add fe_int (fe_call (ok__law_take T) (hr.mono (by decide)) tk rfl T.m__law_take T.f__law_take.kp T.b__law_take (fa_dr 1 (fa_cons (fe_mul fe_int (fe_var 3)) fa_nil)))) (fl_cons fe_int fl_nil)))))))) (fg_name (i := 4) nd)
  (fss_cons (fs_set (i := 11) nd (fe_call (ok__law_clear T) (hr.mono (by decide)) tk rfl T.m__law_clear T.f__law_clear.kp T.b__law_clear (fa_cons (fe_var 6) (fa_cons (fe_var 7) (fa_cons (fe_var 8) (fa_cons (fe_var 9) (fa_cons (fe_var 4) (fa_cons (fe_var 10) fa_nil))))))))
 (fss_cons (fs_if (ft_w (fw_or (ft_not (ft_truth (fb_fe (fe_call (ok__law_same T 1) (hr.mono (by decide)) tk rfl T.m__law_same T.f__law_same.kp T.b__law_same (fa_cons (fe_call (ok_is_clear T) (hr.mono (by decide)) tk rfl T.m_is_clear T.f_is_clear.kp T.b_is_clear (fa_cons (fe_var 6) (fa_cons (fe_var 7) (fa_cons (fe_var 8) (fa_cons (fe_var 9) (fa_cons (fe_var 4) (fa_cons (fe_var 10) fa_nil))))))) (fa_cons (fe_var 11) fa_nil)))))) (fw_or1 (ft_cmp (cmd_ne hr) (fb_var 11) (fb_fe (fe_cmp cmd_ge (fb_var 4) (fb_var 3)))))))
  (fss_one (fs_ret fe_bl))
  fss_nil)
 (fss_one (fs_if (ft_w (fw_and (ft_truth (fb_var 11)) (fw_and (ft_cmp cmd_gt (fb_var 10) (fb_fe fe_int)) (fw_and1 (ft_cmp cmd_isnot (fb_fe (fe_call (ok_is_clear T) (hr.mono (by decide)) tk rfl T.m_is_clear T.f_is_clear.kp T.b_is_clear (fa_cons (fe_var 6) (fa_cons (fe_var 7) (fa_cons (fe_var 8) (fa_cons (fe_var 9) (fa_cons (fe_var 4) (fa_cons (fe_sub (fe_var 10) fe_int) fa_nil)))))))) (fb_fe fe_bl))))))
  (fss_one (fs_ret fe_bl))
  fss_nil)))))
 (fss_cons (fs_for po rfl (fi_seq (fe_n (fn_lst (fl_cons (fe_tup (fl_cons (fe_var 6) (fl_cons (fe_var 7) (fl_cons (fe_var 8) (fl_cons (fe_bi (cal_min2 rfl) T.n_min (by decide +kernel) (fl_cons fe_int (fl_cons (fe_add (fe_var 9) fe_int) fl_nil))) (fl_cons (fe_var 10) fl_nil)))))) (fl_cons (fe_tup (fl_cons (fe_var 6) (fl_cons (fe_bi (cal_min2 rfl) T.n_min (by decide +kernel) (fl_cons fe_int (fl_cons (fe_add (fe_var 7) fe_int) fl_nil))) (fl_cons (fe_var 8) (fl_cons (fe_var 9) (fl_cons (fe_var 10) fl_nil)))))) (fl_cons (fe_tup (fl_cons (fe_var 6) (fl_cons (fe_var 7) (fl_cons (fe_bi (cal_min2 rfl) T.n_min (by decide +kernel) (fl_cons fe_int (fl_cons (fe_add (fe_var 8) fe_int) fl_nil))) (fl_cons (fe_var 9) (fl_cons (fe_var 10) fl_nil)))))) (fl_cons (fe_tup (fl_cons (fe_var 6) (fl_cons (fe_var 7) (fl_cons (fe_var 8) (fl_cons (fe_var 9) (fl_cons (fe_bi (cal_min2 rfl) T.n_min (by decide +kernel) (fl_cons fe_int (fl_cons (fe_add (fe_var 10) fe_int) fl_nil))) fl_nil)))))) fl_nil))))))) (fg_name (i := 5) nd)
  (fss_one (fs_if (ft_cmp cmd_lt (fb_fe (fe_call (ok_least_exposure T) (hr.mono (by decide)) tk rfl T.m_least_exposure T.f_least_exposure.kp T.b_least_exposure (fa_cons (fe_ix (fb_var 5) fe_int) (fa_cons (fe_ix (fb_var 5) fe_int) (fa_cons (fe_ix (fb_var 5) fe_int) (fa_cons (fe_ix (fb_var 5) fe_int) (fa_cons (fe_ix (fb_var 5) fe_int) fa_nil))))))) (fb_var 3))
  (fss_one (fs_ret fe_bl))
  fss_nil)))
 (fss_cons (fs_if (ft_w (fw_and (ft_cmp cmd_lt (fb_var 6) (fb_fe fe_int)) (fw_and1 (ft_cmp cmd_gt (fb_fe (fe_call (ok_least_exposure T) (hr.mono (by decide)) tk rfl T.m_least_exposure T.f_least_exposure.kp T.b_least_exposure (fa_cons (fe_add (fe_var 6) fe_int) (fa_cons (fe_var 7) (fa_cons (fe_var 8) (fa_cons (fe_var 9) (fa_cons (fe_var 10) fa_nil))))))) (fb_var 3)))))
  (fss_one (fs_ret fe_bl))
  fss_nil)
 (fss_one (fs_if (ft_w (fw_and (ft_cmp cmd_le (fb_fe (fe_mul (fe_var 8) (fe_var 10))) (fb_fe fe_int)) (fw_and1 (ft_cmp (cmd_ne hr) (fb_fe (fe_call (ok_least_exposure T) (hr.mono (by decide)) tk rfl T.m_least_exposure T.f_least_exposure.kp T.b_least_exposure (fa_cons (fe_var 6) (fa_cons (fe_var 7) (fa_cons (fe_mul (fe_var 8) (fe_var 10)) (fa_cons (fe_var 9) (fa_cons fe_int fa_nil))))))) (fb_var 3)))))
  (fss_one (fs_ret fe_bl))
  fss_nil))))))))))
 (fss_one (fs_ret fe_bl))), ?_⟩
  clear hr tk po nd
  intro ns hns hb
  walk_at "wp"
  refine ⟨ns, rfl, hns, fun ms => ⟨⟨ms, rfl⟩, ⟨by decide, by decide⟩, ?_⟩⟩
  refine ⟨fun i s' => ∃ x2 x3 x4 x5 x6 x7 x8 x9 x10 x11, s' = [.fz (.list (ns.map .int)), .dr, x2, x3, x4, x5, x6, x7, x8, x9, x10, x11], ⟨_, _, _, _, _, _, _, _, _, _, rfl⟩, ?_, ?_⟩
  · rintro i d s' - ⟨x2, x3, x4, x5, x6, x7, x8, x9, x10, x11, rfl⟩
    walk_at "wp"
    refine ⟨by decide, by decide, fun v a0 a1 => ix_two a0 a1 fun c hc => ⟨by omega, fun l' l0 l1 => ⟨by decide, by decide, fun v b0 b1 => ix_two b0 b1 fun c' hc' => ⟨by omega, fun s s0 s1 => ?_⟩⟩⟩⟩
    refine ⟨by decide, by decide, fun v c0 c1 => ix_two c0 c1 fun c'' hc'' => ⟨by omega, fun n n0 n1 => ⟨by decide, fun k' k0 k1 => ⟨by decide, fun m' m0 m1 => ?_⟩⟩⟩⟩
    obtain ⟨l, rfl⟩ : ∃ l, l' = l - 1 := ⟨l' + 1, by omega⟩
    obtain ⟨k, rfl⟩ : ∃ k, k' = k - 1 := ⟨k' + 1, by omega⟩
    obtain ⟨m, rfl⟩ : ∃ m, m' = m - 1 := ⟨m' + 1, by omega⟩
    rw [show 1 + (l - 1) = l by omega, show 1 + (k - 1) = k by omega, show 1 + (m - 1) = m by omega]
    refine ⟨⟨by omega, by omega, by omega, by omega, by omega, by omega, by omega, by omega, by omega, by omega⟩, fun L hL => ?_⟩
    obtain ⟨L1, L2, hcl, hno⟩ := hL
    have bd : ∀ t : Int, 0 ≤ t → t < 2 ^ 24 → Bd l s n k t m := fun t h1 h2 => ⟨by omega, by omega, by omega, by omega, by omega, by omega, by omega, by omega, by omega, by omega, by omega, by omega⟩
    have e1 : decide (L < 1) = false := decide_eq_false (by omega)
    rw [e1]
    walk_at "wp"
    have up : ∀ t t' : Int, 1 ≤ t → t ≤ t' → clr l s n k t m = true → clr l s n k t' m = true := fun t t' h1 h2 h => clr_up (by omega) s0 n0 (by omega) (by omega) h1 h2 h
    have low : ∀ t : Int, 1 ≤ t → clr l s n k t m = true → L ≤ t := fun t h1 h => by
      refine Int.not_lt.mp fun z => ?_
      have := up t (L - 1) h1 (by omega) h
      rw [hno (by omega)] at this
      exact absurd this (by decide)
    refine ⟨trivial, bd _ (by omega) (by omega), trivial, ?_⟩
    rw [hcl]
    walk_at "wp"
    refine (fun rest => cond_of (fun hL => ⟨bd _ (by have := of_decide_eq_true hL; omega) (by omega), trivial, cond_f (hno (of_decide_eq_true hL)) rest⟩) (fun _ => rest)) ?_
    refine ⟨mul_r (by omega) (by omega), by omega, fun v v0 v1 => ⟨by decide, ?_⟩⟩
    refine ⟨fun i s' => ∃ x4 x11, s' = [.fz (.list (ns.map .int)), .dr, .fz d, .fz (.int L), x4, x5, .fz (.int l), .fz (.int s), .fz (.int n), .fz (.int k), .fz (.int m), x11], ⟨_, _, rfl⟩, ?_, ?_⟩
    · rintro i d' s' e ⟨x4, x11, rfl⟩
      obtain ⟨t, rfl, t1, t2⟩ : ∃ t, d' = .int t ∧ 1 ≤ t ∧ t < 2 ^ 24 := by
        have := List.mem_of_getElem? e
        simp only [List.mem_cons, List.not_mem_nil, or_false] at this
        rcases this with rfl | rfl | rfl | rfl | rfl
        · exact ⟨_, rfl, by omega, by omega⟩
        · exact ⟨_, rfl, by omega, by omega⟩
        · exact ⟨_, rfl, by split <;> omega, by split <;> omega⟩
        · exact ⟨_, rfl, by omega, by omega⟩
        · exact ⟨_, rfl, by omega, by omega⟩
      have key : clr l s n k t m = decide (L ≤ t) := by
        by_cases h : L ≤ t
        · rw [decide_eq_true h]
          exact up L t L1 h hcl
        · rw [decide_eq_false h]
          cases q : clr l s n k t m with
          | false => rfl
          | true => exact absurd (low t t1 q) h
      walk_at "wp"
      rw [key]
      walk_at "sm"
      refine ⟨bd t (by omega) t2, bd t (by omega) t2, ⟨_, rfl, by trivial, ?_⟩⟩
      walk_at "wp"
      walk_at "sm"
      refine ⟨fun ht => ⟨fun hm => ⟨⟨by omega, by omega, by omega, by omega, by omega, by omega, by omega, by omega, by omega, by omega, by omega, by omega⟩, fun _ => ⟨_, _, rfl⟩, fun q => absurd ?_ q⟩, fun _ => ⟨_, _, rfl⟩⟩, fun _ => ⟨_, _, rfl⟩⟩
      exact clr_dn (by omega) s0 n0 (by omega) (by omega) (by omega) (Int.le_refl s) (Int.le_refl n) (Int.le_refl k) (show m - 1 ≤ m by omega) (key.trans (decide_eq_true ht))
    · rintro s' ⟨x4, x11, rfl⟩
      walk_at "wp"
      refine ⟨by decide, by decide, by decide, by decide, by decide, ?_⟩
      refine ⟨fun i s' => ∃ x5, s' = [.fz (.list (ns.map .int)), .dr, .fz d, .fz (.int L), x4, x5, .fz (.int l), .fz (.int s), .fz (.int n), .fz (.int k), .fz (.int m), x11], ⟨_, rfl⟩, ?_, ?_⟩
      · rintro i d' s' e ⟨x5, rfl⟩
        obtain ⟨s', n', k', m', rfl, hs1, hs2, hn1, hn2, hk1, hk2, hm1, hm2⟩ : ∃ s' n' k' m', d' = .tuple [.int l, .int s', .int n', .int k', .int m'] ∧ s ≤ s' ∧ s' ≤ 1001 ∧ n ≤ n' ∧ n' ≤ 10009 ∧ k ≤ k' ∧ k' ≤ 20 ∧ m ≤ m' ∧ m' ≤ 20 := by
          have := List.mem_of_getElem? e
          simp only [List.mem_cons, List.not_mem_nil, or_false] at this
          rcases this with rfl | rfl | rfl | rfl <;> refine ⟨_, _, _, _, rfl, ?_, ?_, ?_, ?_, ?_, ?_, ?_, ?_⟩ <;> (try split) <;> omega
        walk_at "wp"
        refine ⟨_, rfl, _, rfl, _, rfl, _, rfl, _, rfl, ?_⟩
        walk_at "wp"
        refine ⟨⟨by omega, by omega, by omega, by omega, by omega, by omega, by omega, by omega, by omega, by omega⟩, fun L' ⟨h1, h2, h3, h4⟩ => cond_of (fun q => ?_) (fun _ => ⟨_, rfl⟩)⟩
        have := low L' h1 (clr_dn (by omega) s0 n0 (by omega) (by omega) (by omega) hs1 hn1 hk1 hm1 h3)
        have := of_decide_eq_true q
        omega
      · rintro s' ⟨x5, rfl⟩
        have rest : n * m ≤ 10000 → Arg l s (n * m) k 1 ∧ ∀ L', Least l s (n * m) k 1 L' → L' = L := fun hnm => by
          have := Int.mul_nonneg n0 (show 0 ≤ m by omega)
          refine ⟨⟨by omega, by omega, by omega, by omega, by omega, by omega, by omega, by omega, by omega, by omega⟩, fun L' ⟨h1, h2, h3, h4⟩ => ?_⟩
          have e : ∀ t, clr l s (n * m) k t 1 = clr l s n k t m := fun t => by unfold clr; rw [Int.mul_one]
          rw [e] at h3 h4
          have := low L' h1 h3
          refine Int.le_antisymm (Int.not_lt.mp fun z => ?_) this
          have := up L (L' - 1) L1 (by omega) hcl
          rw [h4 (by omega)] at this
          exact absurd this (by decide)
        walk_at "wp"
        refine (fun fin => cond_of (fun q => ⟨⟨by have := of_decide_eq_true q; omega, by have := of_decide_eq_true q; omega, by omega, by omega, by omega, by omega, by omega, by omega, by omega, by omega⟩, fun L' ⟨h1, h2, h3, h4⟩ => cond_f (decide_eq_false ?_) fin⟩) (fun _ => fin)) ?_
        · refine ⟨mul_r (by omega) (by omega), cond_of (fun q => ⟨mul_r (by omega) (by omega), (rest (of_decide_eq_true q)).1, fun L' h => ?_⟩) fun _ => ⟨_, _, _, _, _, _, _, _, _, _, rfl⟩⟩
          have := (rest (of_decide_eq_true q)).2 L' h
          subst this
          walk_at "sm"
          exact ⟨_, _, _, _, _, _, _, _, _, _, rfl⟩
        · refine Int.not_lt.mpr (Int.not_lt.mp fun z => ?_)
          have h5 : clr (l + 1) s n k L m = true := clr_light (by omega) s0 n0 (by omega) (by omega) (by omega) (by omega) hcl
          have := clr_up (t' := L' - 1) (by omega) s0 n0 (by omega) (by omega) L1 (by omega) h5
          rw [h4 (by omega)] at this
          exact absurd this (by decide)
  · rintro s' ⟨x2, x3, x4, x5, x6, x7, x8, x9, x10, x11, rfl⟩
    walk_at "wp"

end
theorem txt_mk {K : PySem.W.Frag} {h : Heap} {mg : Str → Option Value} {f0 f1 f2 f3 f4 f5 f6 : Addr} (X : K.In h) (G : h.Ns mainGlobals mg)
    {od0 an0 od1 an1 od2 an2 od3 an3 od4 an4 od5 an5 od6 an6 : Option Addr} {sl0 sl1 sl2 sl3 sl4 sl5 sl6 : Array (Option Value)} {oc0 kV0 dc0 pm0 cd0 ct0 oc1 kV1 dc1 pm1 cd1 ct1 oc2 kV2 dc2 pm2 cd2 ct2 oc3 kV3 dc3 pm3 cd3 ct3 oc4 kV4 dc4 pm4 cd4 ct4 oc5 kV5 dc5 pm5 cd5 ct5 oc6 kV6 dc6 pm6 cd6 ct6 : Value}
    (a0 : PySem.W.nsIn K mainGlobals "is_clear" = some (some (.ref f0))) (l0 : K.lookup f0 = some ⟨oc0, od0, .func (PySem.W.fnOf "is_clear" "is_clear" (defArgs s_is_clear) (defBody s_is_clear) (defScope s_is_clear) .none kV0 dc0 pm0 an0 cd0 ct0), sl0⟩) (c0 : PySem.W.codeIn K cd0 "is_clear" = true) (k0 : PySem.W.keepIn K (.ref f0) = true)
    (a1 : PySem.W.nsIn K mainGlobals "least_exposure" = some (some (.ref f1))) (l1 : K.lookup f1 = some ⟨oc1, od1, .func (PySem.W.fnOf "least_exposure" "least_exposure" (defArgs s_least_exposure) (defBody s_least_exposure) (defScope s_least_exposure) .none kV1 dc1 pm1 an1 cd1 ct1), sl1⟩) (c1 : PySem.W.codeIn K cd1 "least_exposure" = true) (k1 : PySem.W.keepIn K (.ref f1) = true)
    (a2 : PySem.W.nsIn K mainGlobals "_law_draws" = some (some (.ref f2))) (l2 : K.lookup f2 = some ⟨oc2, od2, .func (PySem.W.fnOf "_law_draws" "_law_draws" (defArgs s__law_draws) (defBody s__law_draws) (defScope s__law_draws) .none kV2 dc2 pm2 an2 cd2 ct2), sl2⟩) (c2 : PySem.W.codeIn K cd2 "_law_draws" = true) (k2 : PySem.W.keepIn K (.ref f2) = true)
    (a3 : PySem.W.nsIn K mainGlobals "_law_take" = some (some (.ref f3))) (l3 : K.lookup f3 = some ⟨oc3, od3, .func (PySem.W.fnOf "_law_take" "_law_take" (defArgs s__law_take) (defBody s__law_take) (defScope s__law_take) .none kV3 dc3 pm3 an3 cd3 ct3), sl3⟩) (c3 : PySem.W.codeIn K cd3 "_law_take" = true) (k3 : PySem.W.keepIn K (.ref f3) = true)
    (a4 : PySem.W.nsIn K mainGlobals "_law_same" = some (some (.ref f4))) (l4 : K.lookup f4 = some ⟨oc4, od4, .func (PySem.W.fnOf "_law_same" "_law_same" (defArgs s__law_same) (defBody s__law_same) (defScope s__law_same) .none kV4 dc4 pm4 an4 cd4 ct4), sl4⟩) (c4 : PySem.W.codeIn K cd4 "_law_same" = true) (k4 : PySem.W.keepIn K (.ref f4) = true)
    (a5 : PySem.W.nsIn K mainGlobals "_law_clear" = some (some (.ref f5))) (l5 : K.lookup f5 = some ⟨oc5, od5, .func (PySem.W.fnOf "_law_clear" "_law_clear" (defArgs s__law_clear) (defBody s__law_clear) (defScope s__law_clear) .none kV5 dc5 pm5 an5 cd5 ct5), sl5⟩) (c5 : PySem.W.codeIn K cd5 "_law_clear" = true) (k5 : PySem.W.keepIn K (.ref f5) = true)
    (a6 : PySem.W.nsIn K mainGlobals "law" = some (some (.ref f6))) (l6 : K.lookup f6 = some ⟨oc6, od6, .func (PySem.W.fnOf "law" "law" (defArgs s_law) (defBody s_law) (defScope s_law) .none kV6 dc6 pm6 an6 cd6 ct6), sl6⟩) (c6 : PySem.W.codeIn K cd6 "law" = true) (k6 : PySem.W.keepIn K (.ref f6) = true)
    (z0 : PySem.W.nsIn K mainGlobals "abs" = some none) (z1 : PySem.W.nsIn K mainGlobals "bool" = some none) (z2 : PySem.W.nsIn K mainGlobals "int" = some none) (z3 : PySem.W.nsIn K mainGlobals "isinstance" = some none) (z4 : PySem.W.nsIn K mainGlobals "len" = some none) (z5 : PySem.W.nsIn K mainGlobals "list" = some none) (z6 : PySem.W.nsIn K mainGlobals "max" = some none) (z7 : PySem.W.nsIn K mainGlobals "min" = some none) (z8 : PySem.W.nsIn K mainGlobals "range" = some none) (z9 : PySem.W.nsIn K mainGlobals "reversed" = some none) (z10 : PySem.W.nsIn K mainGlobals "str" = some none) (z11 : PySem.W.nsIn K mainGlobals "tuple" = some none) :
    Txt K mg ⟨f0, PySem.W.fnOf "is_clear" "is_clear" (defArgs s_is_clear) (defBody s_is_clear) (defScope s_is_clear) .none kV0 dc0 pm0 an0 cd0 ct0, f1, PySem.W.fnOf "least_exposure" "least_exposure" (defArgs s_least_exposure) (defBody s_least_exposure) (defScope s_least_exposure) .none kV1 dc1 pm1 an1 cd1 ct1, f2, PySem.W.fnOf "_law_draws" "_law_draws" (defArgs s__law_draws) (defBody s__law_draws) (defScope s__law_draws) .none kV2 dc2 pm2 an2 cd2 ct2, f3, PySem.W.fnOf "_law_take" "_law_take" (defArgs s__law_take) (defBody s__law_take) (defScope s__law_take) .none kV3 dc3 pm3 an3 cd3 ct3, f4, PySem.W.fnOf "_law_same" "_law_same" (defArgs s__law_same) (defBody s__law_same) (defScope s__law_same) .none kV4 dc4 pm4 an4 cd4 ct4, f5, PySem.W.fnOf "_law_clear" "_law_clear" (defArgs s__law_clear) (defBody s__law_clear) (defScope s__law_clear) .none kV5 dc5 pm5 an5 cd5 ct5, f6, PySem.W.fnOf "law" "law" (defArgs s_law) (defBody s_law) (defScope s_law) .none kV6 dc6 pm6 an6 cd6 ct6⟩ := by
  have F0 := fun_mk (st := s_is_clear) l0 c0 k0
  have F1 := fun_mk (st := s_least_exposure) l1 c1 k1
  have F2 := fun_mk (st := s__law_draws) l2 c2 k2
  have F3 := fun_mk (st := s__law_take) l3 c3 k3
  have F4 := fun_mk (st := s__law_same) l4 c4 k4
  have F5 := fun_mk (st := s__law_clear) l5 c5 k5
  have F6 := fun_mk (st := s_law) l6 c6 k6
  exact {
    f_is_clear := F0
    m_is_clear := PySem.W.mg_of X G a0
    b_is_clear := F0.binds (ps := ["light", "sky", "noise", "k", "t", "m"]) fun _ _ _ _ _ _ us hl => match us, hl with | [_, _, _, _, _, _], _ => rfl
    f_least_exposure := F1
    m_least_exposure := PySem.W.mg_of X G a1
    b_least_exposure := F1.binds (ps := ["light", "sky", "noise", "k", "m"]) fun _ _ _ _ _ _ us hl => match us, hl with | [_, _, _, _, _], _ => rfl
    f__law_draws := F2
    m__law_draws := PySem.W.mg_of X G a2
    b__law_draws := F2.binds (ps := ["script"]) fun _ _ _ _ _ _ us hl => match us, hl with | [_], _ => rfl
    f__law_take := F3
    m__law_take := PySem.W.mg_of X G a3
    b__law_take := F3.binds (ps := ["draws", "bound"]) fun _ _ _ _ _ _ us hl => match us, hl with | [_, _], _ => rfl
    f__law_same := F4
    m__law_same := PySem.W.mg_of X G a4
    b__law_same := F4.binds (ps := ["actual", "due"]) fun _ _ _ _ _ _ us hl => match us, hl with | [_, _], _ => rfl
    f__law_clear := F5
    m__law_clear := PySem.W.mg_of X G a5
    b__law_clear := F5.binds (ps := ["light", "sky", "noise", "k", "t", "m"]) fun _ _ _ _ _ _ us hl => match us, hl with | [_, _, _, _, _, _], _ => rfl
    f_law := F6
    m_law := PySem.W.mg_of X G a6
    b_law := F6.binds (ps := ["script"]) fun _ _ _ _ _ _ us hl => match us, hl with | [_], _ => rfl
    n_abs := PySem.W.mg_none_of X G z0
    n_bool := PySem.W.mg_none_of X G z1
    n_int := PySem.W.mg_none_of X G z2
    n_isinstance := PySem.W.mg_none_of X G z3
    n_len := PySem.W.mg_none_of X G z4
    n_list := PySem.W.mg_none_of X G z5
    n_max := PySem.W.mg_none_of X G z6
    n_min := PySem.W.mg_none_of X G z7
    n_range := PySem.W.mg_none_of X G z8
    n_reversed := PySem.W.mg_none_of X G z9
    n_str := PySem.W.mg_none_of X G z10
    n_tuple := PySem.W.mg_none_of X G z11
  }
theorem law_mk {w : World} {K : PySem.W.Frag} {h : Heap} {mg : Str → Option Value} {fa f0 f1 f2 f3 f4 f5 f6 : Addr} (X : K.In h) (G : h.Ns mainGlobals mg) (hfa : mg "law" = some (.ref fa))
    {od0 an0 od1 an1 od2 an2 od3 an3 od4 an4 od5 an5 od6 an6 : Option Addr} {sl0 sl1 sl2 sl3 sl4 sl5 sl6 : Array (Option Value)} {oc0 kV0 dc0 pm0 cd0 ct0 oc1 kV1 dc1 pm1 cd1 ct1 oc2 kV2 dc2 pm2 cd2 ct2 oc3 kV3 dc3 pm3 cd3 ct3 oc4 kV4 dc4 pm4 cd4 ct4 oc5 kV5 dc5 pm5 cd5 ct5 oc6 kV6 dc6 pm6 cd6 ct6 : Value}
    (a0 : PySem.W.nsIn K mainGlobals "is_clear" = some (some (.ref f0))) (l0 : K.lookup f0 = some ⟨oc0, od0, .func (PySem.W.fnOf "is_clear" "is_clear" (defArgs s_is_clear) (defBody s_is_clear) (defScope s_is_clear) .none kV0 dc0 pm0 an0 cd0 ct0), sl0⟩) (c0 : PySem.W.codeIn K cd0 "is_clear" = true) (k0 : PySem.W.keepIn K (.ref f0) = true)
    (a1 : PySem.W.nsIn K mainGlobals "least_exposure" = some (some (.ref f1))) (l1 : K.lookup f1 = some ⟨oc1, od1, .func (PySem.W.fnOf "least_exposure" "least_exposure" (defArgs s_least_exposure) (defBody s_least_exposure) (defScope s_least_exposure) .none kV1 dc1 pm1 an1 cd1 ct1), sl1⟩) (c1 : PySem.W.codeIn K cd1 "least_exposure" = true) (k1 : PySem.W.keepIn K (.ref f1) = true)
    (a2 : PySem.W.nsIn K mainGlobals "_law_draws" = some (some (.ref f2))) (l2 : K.lookup f2 = some ⟨oc2, od2, .func (PySem.W.fnOf "_law_draws" "_law_draws" (defArgs s__law_draws) (defBody s__law_draws) (defScope s__law_draws) .none kV2 dc2 pm2 an2 cd2 ct2), sl2⟩) (c2 : PySem.W.codeIn K cd2 "_law_draws" = true) (k2 : PySem.W.keepIn K (.ref f2) = true)
    (a3 : PySem.W.nsIn K mainGlobals "_law_take" = some (some (.ref f3))) (l3 : K.lookup f3 = some ⟨oc3, od3, .func (PySem.W.fnOf "_law_take" "_law_take" (defArgs s__law_take) (defBody s__law_take) (defScope s__law_take) .none kV3 dc3 pm3 an3 cd3 ct3), sl3⟩) (c3 : PySem.W.codeIn K cd3 "_law_take" = true) (k3 : PySem.W.keepIn K (.ref f3) = true)
    (a4 : PySem.W.nsIn K mainGlobals "_law_same" = some (some (.ref f4))) (l4 : K.lookup f4 = some ⟨oc4, od4, .func (PySem.W.fnOf "_law_same" "_law_same" (defArgs s__law_same) (defBody s__law_same) (defScope s__law_same) .none kV4 dc4 pm4 an4 cd4 ct4), sl4⟩) (c4 : PySem.W.codeIn K cd4 "_law_same" = true) (k4 : PySem.W.keepIn K (.ref f4) = true)
    (a5 : PySem.W.nsIn K mainGlobals "_law_clear" = some (some (.ref f5))) (l5 : K.lookup f5 = some ⟨oc5, od5, .func (PySem.W.fnOf "_law_clear" "_law_clear" (defArgs s__law_clear) (defBody s__law_clear) (defScope s__law_clear) .none kV5 dc5 pm5 an5 cd5 ct5), sl5⟩) (c5 : PySem.W.codeIn K cd5 "_law_clear" = true) (k5 : PySem.W.keepIn K (.ref f5) = true)
    (a6 : PySem.W.nsIn K mainGlobals "law" = some (some (.ref f6))) (l6 : K.lookup f6 = some ⟨oc6, od6, .func (PySem.W.fnOf "law" "law" (defArgs s_law) (defBody s_law) (defScope s_law) .none kV6 dc6 pm6 an6 cd6 ct6), sl6⟩) (c6 : PySem.W.codeIn K cd6 "law" = true) (k6 : PySem.W.keepIn K (.ref f6) = true)
    (z0 : PySem.W.nsIn K mainGlobals "abs" = some none) (z1 : PySem.W.nsIn K mainGlobals "bool" = some none) (z2 : PySem.W.nsIn K mainGlobals "int" = some none) (z3 : PySem.W.nsIn K mainGlobals "isinstance" = some none) (z4 : PySem.W.nsIn K mainGlobals "len" = some none) (z5 : PySem.W.nsIn K mainGlobals "list" = some none) (z6 : PySem.W.nsIn K mainGlobals "max" = some none) (z7 : PySem.W.nsIn K mainGlobals "min" = some none) (z8 : PySem.W.nsIn K mainGlobals "range" = some none) (z9 : PySem.W.nsIn K mainGlobals "reversed" = some none) (z10 : PySem.W.nsIn K mainGlobals "str" = some none) (z11 : PySem.W.nsIn K mainGlobals "tuple" = some none) :
    LamX.LawAtS PySem.Challenge.rw_nightsgiven_k28_whole_exposures w K (L2.CX PySem.Challenge.rw_nightsgiven_k28_whole_exposures.prog w) 3 63 "script" mg fa h := by
  have e := hfa.symm.trans (PySem.W.mg_of X G a6)
  cases e
  have T := txt_mk X G a0 l0 c0 k0 a1 l1 c1 k1 a2 l2 c2 k2 a3 l3 c3 k3 a4 l4 c4 k4 a5 l5 c5 k5 a6 l6 c6 k6 z0 z1 z2 z3 z4 z5 z6 z7 z8 z9 z10 z11
  exact ⟨PySem.W.fnOf "law" "law" (defArgs s_law) (defBody s_law) (defScope s_law) .none kV6 dc6 pm6 an6 cd6 ct6, [], spLaw K LL, fun _ z => (by cases z), fun _ z => (by cases z), fun _ z => (by cases z), fun s u => .of_eq rfl, fun H a ns hl hb ht hs => ⟨a, ns, rfl, hs, hl, hb, fun P z => (by cases z), fun _ => rfl⟩, fun base _ _ _ => ok_law T⟩
end Lw
open PySem PySem.W PyProof.Rows
set_option maxHeartbeats 0 in
theorem PySem.Challenge.cw_nightsgiven_k28_whole_exposures_holds : PySem.Challenge.rw_nightsgiven_k28_whole_exposures.Holds := by
  w_on; o_law; k_head; (case hw => w_witness2)
  k_fill
  refine LamX.walk_ofTs (l := PySem.Challenge.rw_nightsgiven_k28_whole_exposures) (n := 63) (k := 3) (x := "script") (CX := fun w => L2.CX PySem.Challenge.rw_nightsgiven_k28_whole_exposures.prog w) rfl (by decide) rfl ⟨rfl, by decide, by decide⟩ (fun w h Y => PySem.W.kIn_of Y) ?F FL.cx_none
  case F =>
    intro w mg fa h Y KX G hmg
    refine' Lw.law_mk KX G hmg ?a0 ?l0 ?c0 ?k0 ?a1 ?l1 ?c1 ?k1 ?a2 ?l2 ?c2 ?k2 ?a3 ?l3 ?c3 ?k3 ?a4 ?l4 ?c4 ?k4 ?a5 ?l5 ?c5 ?k5 ?a6 ?l6 ?c6 ?k6 ?z0 ?z1 ?z2 ?z3 ?z4 ?z5 ?z6 ?z7 ?z8 ?z9 ?z10 ?z11
    (case a0 => k_is); (case l0 => k_is); (case c0 => k_is); (case k0 => k_is); (case a1 => k_is); (case l1 => k_is); (case c1 => k_is); (case k1 => k_is); (case a2 => k_is); (case l2 => k_is); (case c2 => k_is); (case k2 => k_is); (case a3 => k_is); (case l3 => k_is); (case c3 => k_is); (case k3 => k_is); (case a4 => k_is); (case l4 => k_is); (case c4 => k_is); (case k4 => k_is); (case a5 => k_is); (case l5 => k_is); (case c5 => k_is); (case k5 => k_is); (case a6 => k_is); (case l6 => k_is); (case c6 => k_is); (case k6 => k_is); (case z0 => k_is); (case z1 => k_is); (case z2 => k_is); (case z3 => k_is); (case z4 => k_is); (case z5 => k_is); (case z6 => k_is); (case z7 => k_is); (case z8 => k_is); (case z9 => k_is); (case z10 => k_is); (case z11 => k_is)

