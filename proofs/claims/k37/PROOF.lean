import PyProof.Rows.All
import Wide.All
import OpenK.AllK
import Wide.FinOn
import HandS.ForMost
import HandS.ForExc
import HandS.Walk
import HandS.Wide
import HandS.Deep
import HandS.Conv
import HandS.IsInst
import HandS.TupAny
import HandS.CallSlots
import HandS.EndTab
import HandS.Style
import HandS.Flow
import HandS.ExcCtx
import HandS.Rev
import HandS.RevTup
import KE.KRevIter
import HandS.Comp
import HandS.AnyAll
import HandS.GenList
import KE.KNest
import HandS.Text
import HandS.Star
import HandS.TupMul
import HandS.Gcd
import KE.DataMinMax
import KE.SortData
import KE.KIndexOf
import HandS.Hot
import HandS.HotCalls
import HandS.ExcIs
import HandS.Lambda
import KE.RegKIsAll
import KE.RegKTryMore
import HandS.Zip
import KE.KTupSum
import KE.DatumOrd
import KE.GoesMore
import HandS.Iter
import PySem.Challenge.RW_nightsgiven_k37_whole_horizons_of_hills
set_option Elab.async false
set_option linter.all false
set_option maxRecDepth 100000
set_option maxHeartbeats 4000000
/-! FL1: a by-value reading over the hand layer: data in place of heaps. -/
namespace FL
open PySem PySem.Spec PyProof.Rows L2

abbrev D := PyData
/-- what a slot holds: nothing that is known, a datum, a list of its own that may grow, the law's draws, a list only looked at, a caught exception -/
inductive Cel where
  | no | fz (d : D) | ow (ds : List D) | dr | lk (ds : List D) | px (a : Addr)
abbrev Sl := List Cel

/-- a law's own: the tables of code objects that may grow; what its draws are like -/
structure Lw where
  tabs : List Addr
  good : List D → Prop
/-- where a def began: the heap, what of it is told by data, the draws' address -/
structure Beg where
  H0 : Hp
  F0 : Hp
  dr : Option Addr

theorem same_upd {H : Hp} {p : Addr} {o : HO} (h : H p = none) : Same H (upd H p o) := fun b x e => by
  rw [upd_ne (ne_of_none e h)]
  exact e
theorem same_sqT {K : PySem.W.Frag} {H H' : Hp} {a : Addr} {xs : List V} (e : Same H H') (h : SqT K H a xs) : SqT K H' a xs := by
  rcases h with (h | ⟨o, h⟩) | h
  · exact .inl (.inl (e _ _ h))
  · exact .inl (.inr ⟨o, e _ _ h⟩)
  · exact .inr h
/-! what stands at a value, as data (lists: tracked ones) -/
mutual
inductive Dt (K : PySem.W.Frag) (H : Hp) : V → PyData → Prop
  | non : Dt K H .non .none
  | bl (b : Bool) : Dt K H (.bl b) (.bool b)
  | int (i : Int) : Dt K H (.int i) (.int i)
  | str (x : Str) : Dt K H (.str x) (.str x)
  | lst {a : Addr} {xs : List V} {ds : List PyData} : SqL K H a xs → DtAll K H xs ds → Dt K H (.ref a) (.list ds)
  | tup {a : Addr} {xs : List V} {ds : List PyData} : SqT K H a xs → DtAll K H xs ds → Dt K H (.ref a) (.tuple ds)
inductive DtAll (K : PySem.W.Frag) (H : Hp) : List V → List PyData → Prop
  | nil : DtAll K H [] []
  | cons {v : V} {vs : List V} {d : PyData} {ds : List PyData} : Dt K H v d → DtAll K H vs ds → DtAll K H (v :: vs) (d :: ds)
end
theorem same_rd {H H' : Hp} {a : Addr} {u : HO} (e : Same H H') (h : Rd H a u) : Rd H' a u := by
  rcases h with h | ⟨o, h⟩
  · exact .inl (e _ _ h)
  · exact .inr ⟨o, e _ _ h⟩
mutual
theorem dt_dp {K : PySem.W.Frag} {H : Hp} : ∀ {v : V} {d : D}, Dt K H v d → L2.Dp K H v d
  | _, .none, h => by cases h; exact .non
  | _, .bool _, h => by cases h; exact .bl _
  | _, .int _, h => by cases h; exact .int _
  | _, .str _, h => by cases h; exact .str _
  | _, .list ds, h => by
    cases h with
    | lst hs ha => exact .lst hs (dts_dp ha)
  | _, .tuple ds, h => by
    cases h with
    | tup hs ha => exact .tup hs (dts_dp ha)
  | _, .dict _, h => by cases h
theorem dts_dp {K : PySem.W.Frag} {H : Hp} : ∀ {vs : List V} {ds : List D}, DtAll K H vs ds → L2.DpAll K H vs ds
  | _, [], h => by cases h; exact .nil
  | _, _ :: _, h => by
    cases h with
    | cons h1 h2 => exact .cons (dt_dp h1) (dts_dp h2)
end
mutual
theorem dp_mono {K : PySem.W.Frag} {H H' : Hp} (e : Same H H') : ∀ {v : V} {d : D}, Dt K H v d → Dt K H' v d
  | _, .none, h => by cases h; exact .non
  | _, .bool _, h => by cases h; exact .bl _
  | _, .int _, h => by cases h; exact .int _
  | _, .str _, h => by cases h; exact .str _
  | _, .list ds, h => by
    cases h with
    | lst hs ha => exact .lst (e.seq hs) (dps_mono e ha)
  | _, .tuple ds, h => by
    cases h with
    | tup hs ha => exact .tup (same_sqT e hs) (dps_mono e ha)
  | _, .dict _, h => by cases h
theorem dps_mono {K : PySem.W.Frag} {H H' : Hp} (e : Same H H') : ∀ {vs : List V} {ds : List D}, DtAll K H vs ds → DtAll K H' vs ds
  | _, [], h => by cases h; exact .nil
  | _, _ :: _, h => by
    cases h with
    | cons h1 h2 => exact .cons (dp_mono e h1) (dps_mono e h2)
end
section
variable {K : PySem.W.Frag} {H : Hp}
theorem dps_len : ∀ {vs : List V} {ds : List D}, DtAll K H vs ds → vs.length = ds.length
  | _, [], h => by cases h; rfl
  | _, _ :: _, h => by
    cases h with
    | cons h1 h2 => simp [dps_len h2]
theorem dps_app : ∀ {vs : List V} {ds : List D} {us : List V} {es : List D}, DtAll K H vs ds → DtAll K H us es → DtAll K H (vs ++ us) (ds ++ es)
  | _, [], _, _, h, h' => by cases h; exact h'
  | _, _ :: _, _, _, h, h' => by
    cases h with
    | cons h1 h2 => exact .cons h1 (dps_app h2 h')
theorem dps_one {v : V} {d : D} (h : Dt K H v d) : DtAll K H [v] [d] := .cons h .nil
theorem dps_get : ∀ {vs : List V} {ds : List D} {i : Nat} {d : D}, DtAll K H vs ds → ds[i]? = some d → ∃ v, vs[i]? = some v ∧ Dt K H v d
  | _, [], _, _, h, e => by simp at e
  | _, d :: ds, 0, _, h, e => by
    cases h with
    | cons h1 h2 => simp at e; subst e; exact ⟨_, rfl, h1⟩
  | _, d :: ds, i + 1, _, h, e => by
    cases h with
    | cons h1 h2 =>
      obtain ⟨v, e1, e2⟩ := dps_get (i := i) h2 (by simpa using e)
      exact ⟨v, by simpa using e1, e2⟩
theorem dps_getv : ∀ {vs : List V} {ds : List D} {i : Nat} {v : V}, DtAll K H vs ds → vs[i]? = some v → ∃ d, ds[i]? = some d ∧ Dt K H v d
  | _, [], _, _, h, e => by cases h; simp at e
  | _, d :: ds, 0, _, h, e => by
    cases h with
    | cons h1 h2 => simp at e; subst e; exact ⟨_, rfl, h1⟩
  | _, d :: ds, i + 1, _, h, e => by
    cases h with
    | cons h1 h2 =>
      obtain ⟨v, e1, e2⟩ := dps_getv (i := i) h2 (by simpa using e)
      exact ⟨v, by simpa using e1, e2⟩
theorem dps_take : ∀ {vs : List V} {ds : List D} (n : Nat), DtAll K H vs ds → DtAll K H (vs.take n) (ds.take n)
  | _, [], n, h => by cases h; simp; exact .nil
  | _, _ :: _, 0, h => by simp; exact .nil
  | _, _ :: _, n + 1, h => by
    cases h with
    | cons h1 h2 => exact .cons h1 (dps_take n h2)
theorem dps_drop : ∀ {vs : List V} {ds : List D} (n : Nat), DtAll K H vs ds → DtAll K H (vs.drop n) (ds.drop n)
  | _, [], n, h => by cases h; simp; exact .nil
  | _, _ :: _, 0, h => h
  | _, _ :: _, n + 1, h => by
    cases h with
    | cons h1 h2 => exact dps_drop n h2
theorem dps_set {v : V} {d : D} (q : Dt K H v d) : ∀ {vs : List V} {ds : List D} (i : Nat), DtAll K H vs ds → DtAll K H (vs.set i v) (ds.set i d)
  | _, [], i, h => by cases h; exact .nil
  | _, _ :: _, 0, h => by
    cases h with
    | cons h1 h2 => exact .cons q h2
  | _, _ :: _, i + 1, h => by
    cases h with
    | cons h1 h2 => exact .cons h1 (dps_set q i h2)
theorem dps_ints : ∀ {ns : List Int} {vs : List V}, DtAll K H vs (ns.map .int) → vs = ns.map V.int
  | [], _, h => by cases h; rfl
  | _ :: _, _, h => by
    cases h with
    | cons h1 h2 => cases h1; simp [dps_ints h2]
theorem dps_of_ints : ∀ (ns : List Int), DtAll K H (ns.map V.int) (ns.map .int)
  | [] => .nil
  | n :: ns => .cons (.int n) (dps_of_ints ns)
theorem dps_bools : ∀ {ns : List Bool} {vs : List V}, DtAll K H vs (ns.map .bool) → vs = ns.map V.bl
  | [], _, h => by cases h; rfl
  | _ :: _, _, h => by
    cases h with
    | cons h1 h2 => cases h1; simp [dps_bools h2]
end

/-- what of a heap an expression keeps -/
def Kp (b : Beg) (H H' : Hp) : Prop := ∀ a o, H a = some o → b.dr ≠ some a → (∀ ps, o ≠ .tbl ps) → H' a = some o
theorem Kp.refl {b : Beg} {H : Hp} : Kp b H H := fun _ _ h _ _ => h
theorem Kp.trans {b : Beg} {H H1 H2 : Hp} (x : Kp b H H1) (y : Kp b H1 H2) : Kp b H H2 := fun a o h n t => y a o (x a o h n t) n t
theorem Kp.of {b : Beg} {H H' : Hp} (x : Same H H') : Kp b H H' := fun a o h _ _ => x a o h

/-- a table of code objects that may grow -/
def TabG (H : Hp) (P : Addr) : Prop := ∃ ps : Array Value, H P = some (.tbl ps) ∧ TriplesOk ps.toList

structure Grd (K : PySem.W.Frag) (L : Lw) (b : Beg) (F H : Hp) : Prop where
  sub : Same F H
  old : Same b.F0 F
  new : ∀ a o, F a = some o → b.F0 a = some o ∨ b.H0 a = none
  keep : Kp b b.H0 H
  live : ∀ a, H a = none → b.H0 a = none
  drw : ∀ a, b.dr = some a → F a = none ∧ ∃ vs ds, H a = some (.lst vs) ∧ DtAll K F vs ds ∧ L.good ds
  tab : ∀ P ∈ L.tabs, TabG H P
  ntb : ∀ a ps, F a ≠ some (.tbl ps)

def CelOk (K : PySem.W.Frag) (b : Beg) (F H : Hp) (v : Option V) : Cel → Prop
  | .no => True
  | .fz d => ∃ x, v = some x ∧ Dt K F x d
  | .ow ds => ∃ a vs, v = some (.ref a) ∧ b.H0 a = none ∧ b.dr ≠ some a ∧ F a = none ∧ H a = some (.lst vs) ∧ DtAll K F vs ds
  | .dr => ∃ a, v = some (.ref a) ∧ b.dr = some a
  | .lk ds => ∃ a vs, v = some (.ref a) ∧ b.H0 a ≠ none ∧ b.dr ≠ some a ∧ H a = some (.lst vs) ∧ DtAll K F vs ds
  | .px a => v = some (.ref a)
def isOw : Option Cel → Prop
  | some (.ow _) => True
  | _ => False
structure Rel (K : PySem.W.Frag) (L : Lw) (b : Beg) (F : Hp) (s : Sl) (σ : L2.St) (H : Hp) : Prop extends Grd K L b F H where
  len : σ.length = s.length
  slot : ∀ (i : Nat) c, s[i]? = some c → CelOk K b F H (σ.getD i none) c
  apart : ∀ (i j : Nat) a, i ≠ j → isOw s[i]? → isOw s[j]? → σ[i]? = some (some (.ref a)) → σ[j]? ≠ some (some (.ref a))

section
variable {K : PySem.W.Frag} {L : Lw} {b : Beg} {F F' : Hp} {s : Sl} {σ : L2.St} {H H' : Hp}
theorem CelOk.mono {v : Option V} {c : Cel} (x : CelOk K b F H v c) (hF : Same F F') (hn : ∀ a, F a = none → H a ≠ none → F' a = none) (hH : Kp b H H') : CelOk K b F' H' v c := by
  cases c with
  | no => trivial
  | fz d => obtain ⟨x, e, h⟩ := x; exact ⟨x, e, dp_mono hF h⟩
  | ow ds =>
    obtain ⟨a, vs, e, h0, hd, hf, hh, hs⟩ := x
    exact ⟨a, vs, e, h0, hd, hn a hf (by rw [hh]; simp), hH a _ hh hd (fun ps z => by cases z), dps_mono hF hs⟩
  | lk ds =>
    obtain ⟨a, vs, e, h0, hd, hh, hs⟩ := x
    exact ⟨a, vs, e, h0, hd, hH a _ hh hd (fun ps z => by cases z), dps_mono hF hs⟩
  | dr => exact x
  | px _ => exact x
/-- a new object, not told -/
theorem Grd.lay {p : Addr} {o : HO} (R : Grd K L b F H) (hp : H p = none) : Grd K L b F (upd H p o) where
  sub := fun a x h => same_upd hp a x (R.sub a x h)
  old := R.old
  new := R.new
  keep := R.keep.trans (Kp.of (same_upd hp))
  live := fun a h => R.live a (by
    cases q : H a with
    | none => rfl
    | some u => rw [same_upd hp a u q] at h; cases h)
  drw := fun a h => by
    obtain ⟨h1, vs, ds, h2, h3⟩ := R.drw a h
    exact ⟨h1, vs, ds, same_upd hp a _ h2, h3⟩
  tab := fun P h => by
    obtain ⟨ps, e, t⟩ := R.tab P h
    exact ⟨ps, same_upd hp P _ e, t⟩
  ntb := R.ntb
/-- a laid object is told from now on -/
theorem Grd.tell {p : Addr} {o : HO} (R : Grd K L b F H) (h0 : b.H0 p = none) (hd : b.dr ≠ some p) (e : H p = some o) (hf : F p = none) (ht : ∀ ps, o ≠ .tbl ps) : Grd K L b (upd F p o) H where
  sub := fun a x h => by
    by_cases q : a = p
    · subst q; rw [upd_same] at h; cases h; exact e
    · rw [upd_ne q] at h; exact R.sub a x h
  old := fun a x h => by
    by_cases q : a = p
    · subst q; rw [R.old a x h] at hf; cases hf
    · rw [upd_ne q]; exact R.old a x h
  new := fun a x h => by
    by_cases q : a = p
    · subst q; exact .inr h0
    · rw [upd_ne q] at h; exact R.new a x h
  keep := R.keep
  live := R.live
  drw := fun a h => by
    obtain ⟨h1, vs, ds, h2, h3, h4⟩ := R.drw a h
    have q : a ≠ p := fun z => hd (by rw [← z]; exact h)
    exact ⟨by rw [upd_ne q]; exact h1, vs, ds, h2, dps_mono (same_upd hf) h3, h4⟩
  tab := R.tab
  ntb := fun a ps h => by
    by_cases q : a = p
    · subst q; rw [upd_same] at h; cases h; exact ht ps rfl
    · rw [upd_ne q] at h; exact R.ntb a ps h
theorem Grd.dr_some (R : Grd K L b F H) {p : Addr} (hp : H p = none) : b.dr ≠ some p := fun z => by
  obtain ⟨_, vs, ds, e, _⟩ := R.drw p z
  rw [hp] at e; cases e
theorem Grd.f_none (R : Grd K L b F H) {p : Addr} (hp : H p = none) : F p = none := by
  cases q : F p with
  | none => rfl
  | some u => rw [R.sub p u q] at hp; cases hp
theorem Rel.lay {p : Addr} {o : HO} (R : Rel K L b F s σ H) (hp : H p = none) : Rel K L b F s σ (upd H p o) :=
  { R.toGrd.lay hp with len := R.len, slot := fun i c e => (R.slot i c e).mono (fun _ _ h => h) (fun _ h _ => h) (Kp.of (same_upd hp)), apart := R.apart }
theorem Rel.tell {p : Addr} {o : HO} (R : Rel K L b F s σ H) (h0 : b.H0 p = none) (hd : b.dr ≠ some p) (e : H p = some o) (hf : F p = none) (ht : ∀ ps, o ≠ .tbl ps)
    (hn : ∀ (i : Nat), isOw s[i]? → σ[i]? ≠ some (some (.ref p))) : Rel K L b (upd F p o) s σ H :=
  { R.toGrd.tell h0 hd e hf ht with
    len := R.len
    slot := fun i c q => by
      have x := R.slot i c q
      cases c with
      | no => trivial
      | fz d => obtain ⟨y, e1, h⟩ := x; exact ⟨y, e1, dp_mono (same_upd hf) h⟩
      | dr => exact x
      | px _ => exact x
      | lk ds =>
        obtain ⟨a, vs, e1, h1, h2, h3, h4⟩ := x
        exact ⟨a, vs, e1, h1, h2, h3, dps_mono (same_upd hf) h4⟩
      | ow ds =>
        obtain ⟨a, vs, e1, h1, h2, h3, h4, h5⟩ := x
        have ne : a ≠ p := fun z => hn i (by rw [q]; trivial) (by
          rw [← z]
          have hi : i < σ.length := by rw [R.len]; exact (List.getElem?_eq_some_iff.mp q).1
          rw [List.getD_eq_getElem?_getD, List.getElem?_eq_getElem hi] at e1
          rw [List.getElem?_eq_getElem hi]
          exact congrArg some e1)
        exact ⟨a, vs, e1, h1, h2, by rw [upd_ne ne]; exact h3, h4, dps_mono (same_upd hf) h5⟩
    apart := R.apart }
theorem Rel.ow_some (R : Rel K L b F s σ H) {p : Addr} (hp : H p = none) (i : Nat) (q : isOw s[i]?) : σ[i]? ≠ some (some (.ref p)) := fun z => by
  cases e : s[i]? with
  | none => rw [e] at q; exact q
  | some c =>
    rw [e] at q
    cases c with
    | ow ds =>
      obtain ⟨a, vs, e1, h1, h2, h3, h4, h5⟩ := R.slot i _ e
      rw [List.getD_eq_getElem?_getD, z] at e1
      cases e1
      rw [hp] at h4; cases h4
    | _ => exact q
/-- a new object, told -/
theorem Rel.new1 {p : Addr} {o : HO} (R : Rel K L b F s σ H) (hp : H p = none) (ht : ∀ ps, o ≠ .tbl ps) : Rel K L b (upd F p o) s σ (upd H p o) :=
  (R.lay hp).tell (R.live p hp) (R.dr_some hp) upd_same (R.f_none hp) ht (fun i q => R.ow_some hp i q)
/-- slot i holds a datum from now on -/
theorem Rel.put {i : Nat} {v : V} {d : D} (R : Rel K L b F s σ H) (h : Dt K F v d) : Rel K L b F (s.set i (.fz d)) (σ.set i (some v)) H :=
  { R.toGrd with
    len := by rw [List.length_set, List.length_set, R.len]
    slot := fun j c e => by
      by_cases q : j = i
      · subst q
        rw [List.getElem?_set] at e
        split at e
        · split at e
          · cases e
            rename_i hj
            refine ⟨v, ?_, h⟩
            rw [List.getD_eq_getElem?_getD, List.getElem?_set, if_pos rfl, if_pos (by rw [R.len]; exact hj)]
            rfl
          · cases e
        · rename_i z; exact absurd rfl z
      · rw [List.getElem?_set_ne (Ne.symm q)] at e
        have x := R.slot j c e
        rw [List.getD_eq_getElem?_getD] at x ⊢
        rw [List.getElem?_set_ne (Ne.symm q)]
        exact x
    apart := fun j k a n h1 h2 h3 h4 => by
      have nj : j ≠ i := fun z => by
        subst z; rw [List.getElem?_set] at h1
        split at h1
        · split at h1 <;> exact h1
        · rename_i z; exact absurd rfl z
      have nk : k ≠ i := fun z => by
        subst z; rw [List.getElem?_set] at h2
        split at h2
        · split at h2 <;> exact h2
        · rename_i z; exact absurd rfl z
      rw [List.getElem?_set_ne (Ne.symm nj)] at h1 h3
      rw [List.getElem?_set_ne (Ne.symm nk)] at h2 h4
      exact R.apart j k a n h1 h2 h3 h4 }
/-- slot i is forgotten -/
theorem Rel.drop1 {i : Nat} {v : Option V} (R : Rel K L b F s σ H) : Rel K L b F (s.set i .no) (σ.set i v) H :=
  { R.toGrd with
    len := by rw [List.length_set, List.length_set, R.len]
    slot := fun j c e => by
      by_cases q : j = i
      · subst q
        rw [List.getElem?_set] at e
        split at e
        · split at e
          · cases e; trivial
          · cases e
        · rename_i z; exact absurd rfl z
      · rw [List.getElem?_set_ne (Ne.symm q)] at e
        have x := R.slot j c e
        rw [List.getD_eq_getElem?_getD] at x ⊢
        rw [List.getElem?_set_ne (Ne.symm q)]
        exact x
    apart := fun j k a n h1 h2 h3 h4 => by
      have nj : j ≠ i := fun z => by
        subst z; rw [List.getElem?_set] at h1
        split at h1
        · split at h1 <;> exact h1
        · rename_i z; exact absurd rfl z
      have nk : k ≠ i := fun z => by
        subst z; rw [List.getElem?_set] at h2
        split at h2
        · split at h2 <;> exact h2
        · rename_i z; exact absurd rfl z
      rw [List.getElem?_set_ne (Ne.symm nj)] at h1 h3
      rw [List.getElem?_set_ne (Ne.symm nk)] at h2 h4
      exact R.apart j k a n h1 h2 h3 h4 }
/-- slot i owns the new list at p -/
theorem Rel.putO {i : Nat} {p : Addr} {vs : List V} {ds : List D} (R : Rel K L b F s σ H) (h0 : b.H0 p = none) (hd : b.dr ≠ some p) (hf : F p = none) (hn : ∀ (j : Nat), isOw s[j]? → σ[j]? ≠ some (some (.ref p)))
    (e : H p = some (.lst vs)) (h : DtAll K F vs ds) : Rel K L b F (s.set i (.ow ds)) (σ.set i (some (.ref p))) H :=
  { R.toGrd with
    len := by rw [List.length_set, List.length_set, R.len]
    slot := fun j c e' => by
      by_cases q : j = i
      · subst q
        rw [List.getElem?_set] at e'
        split at e'
        · split at e'
          · cases e'
            rename_i hj
            refine ⟨p, vs, ?_, h0, hd, hf, e, h⟩
            rw [List.getD_eq_getElem?_getD, List.getElem?_set, if_pos rfl, if_pos (by rw [R.len]; exact hj)]
            rfl
          · cases e'
        · rename_i z; exact absurd rfl z
      · rw [List.getElem?_set_ne (Ne.symm q)] at e'
        have x := R.slot j c e'
        rw [List.getD_eq_getElem?_getD] at x ⊢
        rw [List.getElem?_set_ne (Ne.symm q)]
        exact x
    apart := fun j k a n h1 h2 h3 h4 => by
      by_cases nj : j = i
      · subst nj
        rw [List.getElem?_set_ne n] at h2 h4
        have hj : j < σ.length := by
          rw [List.getElem?_set] at h3
          split at h3
          · split at h3
            · assumption
            · cases h3
          · rename_i z; exact absurd rfl z
        rw [List.getElem?_set, if_pos rfl, if_pos hj] at h3
        cases h3
        exact hn k h2 h4
      · rw [List.getElem?_set_ne (Ne.symm nj)] at h1 h3
        by_cases nk : k = i
        · subst nk
          have hk : k < σ.length := by
            rw [List.getElem?_set] at h4
            split at h4
            · split at h4
              · assumption
              · cases h4
            · rename_i z; exact absurd rfl z
          rw [List.getElem?_set, if_pos rfl, if_pos hk] at h4
          cases h4
          exact hn j h1 h3
        · rw [List.getElem?_set_ne (Ne.symm nk)] at h2 h4
          exact R.apart j k a n h1 h2 h3 h4 }
end
end FL

/-! FL2: judgements by data: expressions, tests, arguments, statements; the rules of plain code. -/
namespace FL
open PySem PySem.Spec PyProof.Rows L2

abbrev We := Sl → (D → Prop) → (Value → Prop) → Prop
abbrev Wt := Sl → (Bool → Prop) → (Value → Prop) → Prop
abbrev Wa := Sl → (List Cel → Prop) → (Value → Prop) → Prop
abbrev Wl := Sl → (List D → Prop) → (Value → Prop) → Prop

section
variable (K : PySem.W.Frag) (L : Lw) (W : WX)
/-- what a raise within an expression is wished to reach -/
def Exw (b : Beg) (F : Hp) (s : Sl) (σ : L2.St) (R : Value → Prop) : Prop := ∀ cls F' H', Rel K L b F' s σ H' → Same F F' → R cls → W cls none σ H'
def Snd (t : TE) (w : We) : Prop := ∀ (b : Beg) (F : Hp) (s : Sl) (σ : L2.St) (H : Hp) (Q : D → Prop) (R : Value → Prop) (k : VK), Rel K L b F s σ H → w s Q R → Exw K L W b F s σ R →
  (∀ F' d v H', Rel K L b F' s σ H' → Same F F' → Kp b H H' → Dt K F' v d → Q d → k v H') → t σ H k
def SndT (t : TT) (w : Wt) : Prop := ∀ (b : Beg) (F : Hp) (s : Sl) (σ : L2.St) (H : Hp) (Q : Bool → Prop) (R : Value → Prop) (k : Bool → Hp → Prop), Rel K L b F s σ H → w s Q R → Exw K L W b F s σ R →
  (∀ F' c H', Rel K L b F' s σ H' → Same F F' → Kp b H H' → Q c → k c H') → t σ H k
/-- an argument: a datum, or the draws -/
def ArgOk (b : Beg) (F : Hp) (v : V) : Cel → Prop
  | .fz d => Dt K F v d
  | .dr => ∃ a, v = .ref a ∧ b.dr = some a
  | .px a => v = .ref a
  | _ => False
def ArgsOk (b : Beg) (F : Hp) : List V → List Cel → Prop
  | [], [] => True
  | v :: vs, c :: cs => ArgOk K b F v c ∧ ArgsOk b F vs cs
  | [], _ :: _ => False
  | _ :: _, [] => False
def SndA (t : TA) (w : Wa) : Prop := ∀ (b : Beg) (F : Hp) (s : Sl) (σ : L2.St) (H : Hp) (Q : List Cel → Prop) (R : Value → Prop) (k : List V → Hp → Prop), Rel K L b F s σ H → w s Q R → Exw K L W b F s σ R →
  (∀ F' cs vs H', Rel K L b F' s σ H' → Same F F' → Kp b H H' → ArgsOk K b F' vs cs → Q cs → k vs H') → t σ H k
/-- told whole, or a list of the def's own whose items are told -/
def DpB (b : Beg) (F H : Hp) (v : V) (d : D) : Prop := Dt K F v d ∨ ∃ a vs ds, v = .ref a ∧ d = .list ds ∧ b.dr ≠ some a ∧ H a = some (.lst vs) ∧ DtAll K F vs ds
def SndB (t : TE) (w : We) : Prop := ∀ (b : Beg) (F : Hp) (s : Sl) (σ : L2.St) (H : Hp) (Q : D → Prop) (R : Value → Prop) (k : VK), Rel K L b F s σ H → w s Q R → Exw K L W b F s σ R →
  (∀ F' d v H', Rel K L b F' s σ H' → Same F F' → Kp b H H' → DpB K b F' H' v d → Q d → k v H') → t σ H k
/-- a new list, nobody's so far -/
structure Fresh (b : Beg) (F : Hp) (s : Sl) (σ : L2.St) (p : Addr) : Prop where
  h0 : b.H0 p = none
  hd : b.dr ≠ some p
  hf : F p = none
  hn : ∀ (i : Nat), isOw s[i]? → σ[i]? ≠ some (some (.ref p))
def SndN (t : TE) (w : Wl) : Prop := ∀ (b : Beg) (F : Hp) (s : Sl) (σ : L2.St) (H : Hp) (Q : List D → Prop) (R : Value → Prop) (k : VK), Rel K L b F s σ H → w s Q R → Exw K L W b F s σ R →
  (∀ F' ds p vs H', Rel K L b F' s σ H' → Same F F' → Kp b H H' → Fresh b F' s σ p → H' p = some (.lst vs) → DtAll K F' vs ds → Q ds → k (.ref p) H') → t σ H k
/-- what is walked, turn by turn, while it is told in F; P: what must hold of the slots -/
def WalkD (b : Beg) (F : Hp) (P : Sl → L2.St → Prop) (J : It) (ds : List D) : Prop := ∀ (b1 : Beg) F1 s1 σ1 H1, Rel K L b1 F1 s1 σ1 H1 → Same F F1 → P s1 σ1 →
  (∀ i, i < ds.length → J.go i H1) ∧ J.stop ds.length H1 ∧ ∀ i x H', i < ds.length → J.yld i H1 x H' → ∃ F2 d, ds[i]? = some d ∧ Rel K L b1 F2 s1 σ1 H' ∧ Same F1 F2 ∧ Kp b1 H1 H' ∧ Dt K F2 x d
def SndI (wi : TI) (w : Wl) : Prop := ∀ (b : Beg) (F : Hp) (s : Sl) (σ : L2.St) (H : Hp) (Q : List D → Prop) (R : Value → Prop) (k : It → Hp → Prop), Rel K L b F s σ H → w s Q R → Exw K L W b F s σ R →
  (∀ F' ds J H', Rel K L b F' s σ H' → Same F F' → Kp b H H' → WalkD K L b F' (fun _ _ => True) J ds → Q ds → k J H') → wi σ H k
abbrev Wg := D → Sl → (Sl → Prop) → Prop
def SndG (g : TG) (w : Wg) : Prop := ∀ (b : Beg) (F : Hp) (s : Sl) (σ : L2.St) (H : Hp) (v : V) (d : D) (Q : Sl → Prop) (k : L2.St → Hp → Prop), Rel K L b F s σ H → Dt K F v d → w d s Q →
  (∀ F' s' σ' H', Rel K L b F' s' σ' H' → Same F F' → Q s' → k σ' H') → g v σ H k
def SndGs (g : TGs) (w : List D → Sl → (Sl → Prop) → Prop) : Prop := ∀ (b : Beg) (F : Hp) (s : Sl) (σ : L2.St) (H : Hp) (vs : List V) (ds : List D) (Q : Sl → Prop) (k : L2.St → Hp → Prop), Rel K L b F s σ H → DtAll K F vs ds → w ds s Q →
  (∀ F' s' σ' H', Rel K L b F' s' σ' H' → Same F F' → Q s' → k σ' H') → g vs σ H k
structure En where
  nx : Sl → Prop
  rt : D → Prop
  ex : Value → Prop
  bk : Sl → Prop := fun _ => False
  ct : Sl → Prop := fun _ => False
  rn : List D → Prop := fun _ => False
abbrev Ws := Sl → En → Prop
structure EnOk (b : Beg) (F : Hp) (E : En) (D' : Ends) : Prop where
  nx : ∀ F' s' σ' H', Rel K L b F' s' σ' H' → Same F F' → E.nx s' → D'.nx σ' H'
  rt : ∀ F' s' σ' H' v d, Rel K L b F' s' σ' H' → Same F F' → Dt K F' v d → E.rt d → D'.rt v H'
  bk : ∀ F' s' σ' H', Rel K L b F' s' σ' H' → Same F F' → E.bk s' → D'.bk σ' H'
  ct : ∀ F' s' σ' H', Rel K L b F' s' σ' H' → Same F F' → E.ct s' → D'.ct σ' H'
  ex : ∀ cls F' s' σ' H', Rel K L b F' s' σ' H' → Same F F' → E.ex cls → W cls none σ' H'
  rn : ∀ F' s' σ' H' p vs ds, Rel K L b F' s' σ' H' → Same F F' → Fresh b F' s' σ' p → H' p = some (.lst vs) → DtAll K F' vs ds → E.rn ds → D'.rt (.ref p) H'
def SndS (t : TS) (w : Ws) : Prop := ∀ (b : Beg) (F : Hp) (s : Sl) (σ : L2.St) (H : Hp) (E : En) (D' : Ends), Rel K L b F s σ H → w s E → EnOk K L W b F E D' → t D' σ H
end

section
variable (X : Cx) (L : Lw) (W : WX)
structure FE (e : Expr) (t : TE) (w : We) : Prop where
  pe : PE X e t
  snd : Snd X.K L W t w
structure FT (e : Expr) (t : TT) (w : Wt) : Prop where
  pe : PT X e t
  snd : SndT X.K L W t w
structure FW (e : Expr) (t : TT) (w : Wt) : Prop where
  pe : PW X e t
  snd : SndT X.K L W t w
structure FA (es : List Expr) (t : TA) (w : Wa) : Prop where
  pe : PA X es t
  snd : SndA X.K L W t w
structure FB (e : Expr) (t : TE) (w : We) : Prop where
  pe : PE X e t
  snd : SndB X.K L W t w
structure FN (e : Expr) (t : TE) (w : Wl) : Prop where
  pe : PE X e t
  snd : SndN X.K L W t w
structure FI (tg iter : Expr) (t : TI) (w : Wl) : Prop where
  pe : PI X tg iter t
  snd : SndI X.K L W t w
structure FG (tg : Expr) (g : TG) (w : Wg) : Prop where
  pe : PG X tg g
  snd : SndG X.K L g w
structure FGs (tgs : List Expr) (g : TGs) (w : List D → Sl → (Sl → Prop) → Prop) : Prop where
  pe : PGs X tgs g
  snd : SndGs X.K L g w
structure FS (st : Stmt) (t : TS) (w : Ws) : Prop where
  pe : PS X st t
  snd : SndS X.K L W t w
structure FSs (sts : List Stmt) (t : TS) (w : Ws) : Prop where
  pe : PSs X sts t
  snd : SndS X.K L W t w
end

section
variable {X : Cx} {L : Lw} {W : WX} {pos : Pos}
theorem same_trans {F F1 F2 : Hp} (a : Same F F1) (b : Same F1 F2) : Same F F2 := a.trans b
theorem Exw.mono {K : PySem.W.Frag} {b : Beg} {F F' : Hp} {s : Sl} {σ : L2.St} {R : Value → Prop} (x : Exw K L W b F s σ R) (m : Same F F') : Exw K L W b F' s σ R := fun cls F1 H1 I m1 q => x cls F1 H1 I (m.trans m1) q

/-! ### names, constants -/
def wVar (i : Nat) : We := fun s Q _ => match s[i]? with
  | some (.fz d) => Q d
  | _ => False
theorem fe_var (i : Nat) {x : Str} (hN : X.N[i]? = some x := by rfl) (hv : Vis X.env.scope x := by first | exact Or.inl rfl | exact Or.inr (Or.inl rfl) | exact Or.inr (Or.inr rfl)) (hd : (x == ("__debug__" : Str)) = false := by decide)
    (hcd : (x == ("__classdict__" : Str)) = false := by decide) : FE X L W (.Name x pos) (tVar i) (wVar i) := by
  refine ⟨pv i hN hv hd hcd, fun b F s σ H Q R k I h hx kk => ?_⟩
  unfold wVar at h
  split at h
  · rename_i d e
    obtain ⟨v, e1, h1⟩ := I.slot i _ e
    refine ⟨v, ?_, kk F d v H I (Same.refl F) Kp.refl h1 h⟩
    rw [List.getD_eq_getElem?_getD] at e1
    cases q : σ[i]? with
    | none => rw [q] at e1; cases e1
    | some u => rw [q] at e1; exact congrArg some e1
  · exact h.elim
/-- a slot whose list may still grow, only looked at -/
def wVarB (i : Nat) : We := fun s Q _ => match s[i]? with
  | some (.fz d) => Q d
  | some (.ow ds) => Q (.list ds)
  | some (.lk ds) => Q (.list ds)
  | _ => False
theorem fb_var (i : Nat) {x : Str} (hN : X.N[i]? = some x := by rfl) (hv : Vis X.env.scope x := by first | exact Or.inl rfl | exact Or.inr (Or.inl rfl) | exact Or.inr (Or.inr rfl)) (hd : (x == ("__debug__" : Str)) = false := by decide)
    (hcd : (x == ("__classdict__" : Str)) = false := by decide) : FB X L W (.Name x pos) (tVar i) (wVarB i) := by
  refine ⟨pv i hN hv hd hcd, fun b F s σ H Q R k I h hx kk => ?_⟩
  have out : ∀ {v : V}, σ.getD i none = some v → σ[i]? = some (some v) := fun {v} e1 => by
    rw [List.getD_eq_getElem?_getD] at e1
    cases q : σ[i]? with
    | none => rw [q] at e1; cases e1
    | some u => rw [q] at e1; exact congrArg some e1
  unfold wVarB at h
  split at h
  · rename_i d e
    obtain ⟨v, e1, h1⟩ := I.slot i _ e
    exact ⟨v, out e1, kk F d v H I (Same.refl F) Kp.refl (.inl h1) h⟩
  · rename_i ds e
    obtain ⟨a, vs, e1, h1, h2, h3, h4, h5⟩ := I.slot i _ e
    exact ⟨_, out e1, kk F _ _ H I (Same.refl F) Kp.refl (.inr ⟨a, vs, ds, rfl, rfl, h2, h4, h5⟩) h⟩
  · rename_i ds e
    obtain ⟨a, vs, e1, h1, h2, h4, h5⟩ := I.slot i _ e
    exact ⟨_, out e1, kk F _ _ H I (Same.refl F) Kp.refl (.inr ⟨a, vs, ds, rfl, rfl, h2, h4, h5⟩) h⟩
  · exact h.elim
theorem fb_fe {e : Expr} {t : TE} {w : We} (h : FE X L W e t w) : FB X L W e t w :=
  ⟨h.pe, fun b F s σ H Q R k I q hx kk => h.snd b F s σ H Q R k I q hx fun F' d v H' I' sm kp r => kk F' d v H' I' sm kp (.inl r)⟩
def wC (d : D) : We := fun _ Q _ => Q d
theorem snd_c {v : V} {d : D} (h : ∀ F, Dt X.K F v d) : Snd X.K L W (tC v) (wC d) := fun b F s σ H Q R k I q hx kk => kk F d v H I (Same.refl F) Kp.refl (h F) q
theorem fe_int {i : Int} {j : Nat} : FE X L W (.Constant (.int i) j pos) (tC (.int i)) (wC (.int i)) := ⟨pe_int, snd_c fun _ => .int i⟩
theorem fe_bl {i : Bool} {j : Nat} : FE X L W (.Constant (.bool i) j pos) (tC (.bl i)) (wC (.bool i)) := ⟨pe_bl, snd_c fun _ => .bl i⟩
theorem fe_non {j : Nat} : FE X L W (.Constant .none j pos) (tC .non) (wC .none) := ⟨pe_non, snd_c fun _ => .non⟩
theorem fe_str {x : Str} {j : Nat} : FE X L W (.Constant (.str x) j pos) (tC (.str x)) (wC (.str x)) := ⟨pe_str, snd_c fun _ => .str x⟩
/-- a constant of the module's top -/
theorem fe_glob {x : Str} {v : V} {u : Value} {d : D} (hg : Gl X x) (hm : X.mg x = some u) (r : RelV v u) (hp : Dt X.K (fun _ => none) v d) (hd : (x == ("__debug__" : Str)) = false := by decide) : FE X L W (.Name x pos) (tC v) (wC d) :=
  ⟨pe_glob hg hm r hd, snd_c fun F => dp_mono (fun _ _ z => by cases z) hp⟩

/-! ### operators by data -/
structure OpD (X : Cx) (L : Lw) (f : Value → Value → Sem Value) (r : R2) (w : D → D → (D → Prop) → Prop) : Prop where
  op : OpR X f r
  snd : ∀ (b : Beg) (F : Hp) (s : Sl) (σ : L2.St) (H : Hp) (x y : V) (d e : D) (Q : D → Prop) (k : VK), Rel X.K L b F s σ H → Dt X.K F x d → Dt X.K F y e → w d e Q →
    (∀ F' c v H', Rel X.K L b F' s σ H' → Same F F' → Kp b H H' → Dt X.K F' v c → Q c → k v H') → r x y H k
def wOp (w : D → D → (D → Prop) → Prop) (wa wb : We) : We := fun s Q R => wa s (fun x => wb s (fun y => w x y Q) R) R
theorem fe_op {op : Operator} {r : R2} {w : D → D → (D → Prop) → Prop} {a c : Expr} {ta tb : TE} {wa wb : We} (o : OpD X L (binaryOp op) r w) (ha : FE X L W a ta wa) (hb : FE X L W c tb wb) : FE X L W (.BinOp a op c pos) (tOp r ta tb) (wOp w wa wb) := by
  refine ⟨pe_op o.op ha.pe hb.pe, fun b F s σ H Q R k I h hx kk => ?_⟩
  refine ha.snd b F s σ H _ R _ I h hx fun F1 d1 v1 H1 I1 m1 k1 r1 h1 => ?_
  refine hb.snd b F1 s σ H1 _ R _ I1 h1 (hx.mono m1) fun F2 d2 v2 H2 I2 m2 k2 r2 h2 => ?_
  exact o.snd b F2 s σ H2 v1 v2 d1 d2 Q k I2 (dp_mono m2 r1) r2 h2 fun F3 c v H3 I3 m3 k3 r3 q => kk F3 c v H3 I3 (m1.trans (m2.trans m3)) (k1.trans (k2.trans k3)) r3 q
def dI (C : Int → Int → Prop) (g : Int → Int → Int) : D → D → (D → Prop) → Prop := fun d e Q => match d, e with
  | .int i, .int j => C i j ∧ Q (.int (g i j))
  | _, _ => False
def dI0 (g : Int → Int → Int) : D → D → (D → Prop) → Prop := fun d e Q => match d, e with
  | .int i, .int j => Q (.int (g i j))
  | _, _ => False
theorem opd_I {f : Value → Value → Sem Value} {C : Int → Int → Prop} {g : Int → Int → Int} (h : OpR X f (rI C fun i j => .int (g i j))) : OpD X L f (rI C fun i j => .int (g i j)) (dI C g) := by
  refine ⟨h, fun b F s σ H x y d e Q k I hx hy q kk => ?_⟩
  unfold dI at q
  split at q
  · cases hx; cases hy
    exact ⟨_, _, rfl, rfl, q.1, kk F _ _ H I (Same.refl F) Kp.refl (.int _) q.2⟩
  · exact q.elim
theorem opd_I0 {f : Value → Value → Sem Value} {g : Int → Int → Int} (h : OpR X f (rI0 fun i j => .int (g i j))) : OpD X L f (rI0 fun i j => .int (g i j)) (dI0 g) := by
  refine ⟨h, fun b F s σ H x y d e Q k I hx hy q kk => ?_⟩
  unfold dI0 at q
  split at q
  · cases hx; cases hy
    exact ⟨_, _, rfl, rfl, kk F _ _ H I (Same.refl F) Kp.refl (.int _) q⟩
  · exact q.elim
/-- + -/
def rCatL (K : PySem.W.Frag) : R2 := fun x y H Q => ∃ l b xs zs, x = .ref l ∧ y = .ref b ∧ SqL K H l xs ∧ SqL K H b zs ∧ xs.length + zs.length ≤ sizeLine ∧ ∀ p, H p = none → Q (.ref p) (upd H p (.lst (xs ++ zs)))
theorem op_catL : OpR X (binaryOp .Add) (rCatL X.K) := by
  intro pins s σ H x y v u Q I rx ry h
  obtain ⟨l, b, xs, zs, rfl, rfl, hH, hB, hz, q⟩ := h
  cases rx
  cases ry
  obtain ⟨its, r, ⟨⟨c1, d1, t1, s1⟩, n, ho, hc, hdn, hd⟩, z⟩ := I.list hH
  obtain ⟨its2, r2, ⟨⟨c2, d2, t2, s2⟩, n2, ho2, hc2, hdn2, hd2⟩, z2⟩ := I.list hB
  have l1 := r.length
  have l2 := r2.length
  simp only at hc hd hdn hc2 hd2 hdn2
  subst hc hd hdn hc2 hd2 hdn2
  refine concat_meets ⟨_, ho, rfl⟩ ⟨_, ho2, rfl⟩ noFill_list_add seq_list_add PySem.F.slot_list_add PySem.F.entry_list_add (PySem.F.args_list_add_2 _ _) (list_addW l b its.toArray its2.toArray n n2 _ _ s1 s2 (by rw [List.size_toArray, List.size_toArray]; omega)) ⟨ho, ho2, ?_⟩
  have ea : its.toArray ++ its2.toArray = (its ++ its2).toArray := by simp
  rw [ea]
  exact ⟨.ref _, _, I.lnew (t' := s.toks) (r.append r2) (by rw [List.length_append]; omega), rfl, q _ I.fresh⟩
end
end FL

/-! FL3: operators, comparisons, tests, subscripts, displays. -/
namespace FL
open PySem PySem.Spec PyProof.Rows L2
section
variable {X : Cx} {L : Lw} {W : WX} {pos : Pos} {a c : Expr} {ta tb : TE} {wa wb : We}

/-! ### + - * // % ** << >> ^ & -/
def dAdd : D → D → (D → Prop) → Prop := fun d e Q => match d, e with
  | .int i, .int j => Q (.int (i + j))
  | .str x, .str y => x.length + y.length ≤ sizeLine ∧ Q (.str (x ++ y))
  | .tuple xs, .tuple ys => xs.length + ys.length ≤ sizeLine ∧ Q (.tuple (xs ++ ys))
  | .list xs, .list ys => xs.length + ys.length ≤ sizeLine ∧ Q (.list (xs ++ ys))
  | _, _ => False
abbrev rStrAdd : R2 := fun x y H Q => ∃ i j, x = .str i ∧ y = .str j ∧ i.length + j.length ≤ sizeLine ∧ Q (.str (i ++ j)) H
abbrev rAddA (K : PySem.W.Frag) : R2 := fun x y H Q => rI0 (fun i j => .int (i + j)) x y H Q ∨ (rStrAdd x y H Q ∨ (rCatA K x y H Q ∨ rCatL K x y H Q))
theorem opd_add : OpD X L (binaryOp .Add) (rAddA X.K) dAdd := by
  refine ⟨op_add.or (op_add_str.or (op_catA.or op_catL)), fun b F s σ H x y d e Q k I hx hy q kk => ?_⟩
  unfold dAdd at q
  split at q
  · cases hx; cases hy
    exact .inl ⟨_, _, rfl, rfl, kk F _ _ H I (Same.refl F) Kp.refl (.int _) q⟩
  · cases hx; cases hy
    exact .inr (.inl ⟨_, _, rfl, rfl, q.1, kk F _ _ H I (Same.refl F) Kp.refl (.str _) q.2⟩)
  · rename_i xs ys
    cases hx with
    | tup h1 h2 =>
      cases hy with
      | tup h3 h4 =>
        have l1 := dps_len h2
        have l2 := dps_len h4
        refine .inr (.inr (.inl ⟨_, _, _, _, rfl, rfl, same_sqT I.sub h1, same_sqT I.sub h3, by omega, fun e => ?_, fun e1 e2 => ?_, fun e1 e2 p hp => ?_⟩))
        · subst e
          have z : xs = [] := List.eq_nil_of_length_eq_zero l1.symm
          subst z
          exact kk F _ _ H I (Same.refl F) Kp.refl (.tup h3 h4) q.2
        · subst e2
          have z : ys = [] := List.eq_nil_of_length_eq_zero l2.symm
          subst z
          rw [List.append_nil] at q
          exact kk F _ _ H I (Same.refl F) Kp.refl (.tup h1 h2) q.2
        · have hf := I.f_none hp
          exact kk _ _ _ _ (I.new1 hp (fun ps z => by cases z)) (same_upd hf) (Kp.of (same_upd hp)) (.tup (.inl (.inl upd_same)) (dps_mono (same_upd hf) (dps_app h2 h4))) q.2
  · cases hx with
    | lst h1 h2 =>
      cases hy with
      | lst h3 h4 =>
        have l1 := dps_len h2
        have l2 := dps_len h4
        refine .inr (.inr (.inr ⟨_, _, _, _, rfl, rfl, I.sub.seq h1, I.sub.seq h3, by omega, fun p hp => ?_⟩))
        have hf := I.f_none hp
        exact kk _ _ _ _ (I.new1 hp (fun ps z => by cases z)) (same_upd hf) (Kp.of (same_upd hp)) (.lst (.inl (.inl upd_same)) (dps_mono (same_upd hf) (dps_app h2 h4))) q.2
  · exact q.elim
theorem fe_add (ha : FE X L W a ta wa) (hb : FE X L W c tb wb) : FE X L W (.BinOp a .Add c pos) (tOp (rAddA X.K) ta tb) (wOp dAdd wa wb) := fe_op opd_add ha hb
theorem fe_sub (ha : FE X L W a ta wa) (hb : FE X L W c tb wb) : FE X L W (.BinOp a .Sub c pos) (tOp (rI0 fun i j => .int ((fun i j => i - j) i j)) ta tb) (wOp (dI0 fun i j => i - j) wa wb) := fe_op (opd_I0 op_sub) ha hb
/-- the product is within the machine's bounds -/
def MulOk (i j : Int) : Prop := IntMulOk i j
theorem mul_l {i j : Int} (h1 : -(2 ^ 64) < i) (h2 : i < 2 ^ 64) : MulOk i j := CMul.ok (.inl ⟨h1, h2⟩)
theorem mul_r {i j : Int} (h1 : -(2 ^ 64) < j) (h2 : j < 2 ^ 64) : MulOk i j := CMul.ok (.inr ⟨h1, h2⟩)
theorem mul_w {i j : Int} {m n : Nat} (h1 : i.natAbs < 2 ^ m) (h2 : j.natAbs < 2 ^ n) (h : 0 < m ∧ 0 < n ∧ m + n ≤ 1000000) : MulOk i j := CMulW.ok (wide_mul h1 h2 h.1 h.2.1 h.2.2)
theorem op_mulA : OpR X (binaryOp .Mult) (rI MulOk fun i j => .int (i * j)) := opI fun _ _ _ _ _ _ _ hc q => mul_int q hc
theorem fe_mul (ha : FE X L W a ta wa) (hb : FE X L W c tb wb) : FE X L W (.BinOp a .Mult c pos) (tOp (rI MulOk fun i j => .int ((fun i j => i * j) i j)) ta tb) (wOp (dI MulOk fun i j => i * j) wa wb) := fe_op (opd_I op_mulA) ha hb
/-- a divisor within the machine's bounds -/
def DivOk (j : Int) : Prop := j.natAbs.log2 < 9000
theorem div_s {j : Int} (h1 : -(2 ^ 64) < j) (h2 : j < 2 ^ 64) : DivOk j := by
  unfold DivOk
  have h3 : j.natAbs < 2 ^ 65 := by omega
  exact Nat.lt_trans (PySem.Flt.log2_lt_of (by decide : 0 < 65) h3) (by decide)
theorem div_w {j : Int} {m : Nat} (h : j.natAbs < 2 ^ m) (h2 : 0 < m ∧ m ≤ 9000) : DivOk j := Nat.lt_of_lt_of_le (PySem.Flt.log2_lt_of h2.1 h) h2.2
theorem op_fdivP : OpR X (binaryOp .FloorDiv) (rI (fun _ j => 0 < j ∧ DivOk j) fun i j => .int (i / j)) := opI fun i j _ _ _ _ _ hc q => by
  have h1 : (0 : Int) < j := hc.1
  exact floordiv_int (by omega) (by rw [Int.fdiv_eq_ediv_of_nonneg i (by omega)]; exact q) (.inl (PyProof.noPylong_of_log2 hc.2))
theorem op_fdivA : OpR X (binaryOp .FloorDiv) (rI (fun _ j => j ≠ 0 ∧ DivOk j) fun i j => .int (i.fdiv j)) := opI fun i j _ _ _ _ _ hc q =>
  floordiv_int hc.1 q (.inl (PyProof.noPylong_of_log2 hc.2))
theorem fe_div (ha : FE X L W a ta wa) (hb : FE X L W c tb wb) : FE X L W (.BinOp a .FloorDiv c pos) (tOp (rI (fun _ j => 0 < j ∧ DivOk j) fun i j => .int ((fun i j => i / j) i j)) ta tb) (wOp (dI (fun _ j => 0 < j ∧ DivOk j) fun i j => i / j) wa wb) := fe_op (opd_I op_fdivP) ha hb
theorem fe_divN (ha : FE X L W a ta wa) (hb : FE X L W c tb wb) : FE X L W (.BinOp a .FloorDiv c pos) (tOp (rI (fun _ j => j ≠ 0 ∧ DivOk j) fun i j => .int ((fun i j => i.fdiv j) i j)) ta tb) (wOp (dI (fun _ j => j ≠ 0 ∧ DivOk j) fun i j => i.fdiv j) wa wb) := fe_op (opd_I op_fdivA) ha hb
theorem fe_mod (ha : FE X L W a ta wa) (hb : FE X L W c tb wb) : FE X L W (.BinOp a .Mod c pos) (tOp (rI (fun _ j => 0 < j) fun i j => .int ((fun i j => i % j) i j)) ta tb) (wOp (dI (fun _ j => 0 < j) fun i j => i % j) wa wb) := fe_op (opd_I op_mod) ha hb
theorem fe_modN (ha : FE X L W a ta wa) (hb : FE X L W c tb wb) : FE X L W (.BinOp a .Mod c pos) (tOp (rI (fun _ j => j ≠ 0) fun i j => .int ((fun i j => i.fmod j) i j)) ta tb) (wOp (dI (fun _ j => j ≠ 0) fun i j => i.fmod j) wa wb) := fe_op (opd_I op_modN) ha hb
theorem fe_pow (ha : FE X L W a ta wa) (hb : FE X L W c tb wb) : FE X L W (.BinOp a .Pow c pos) (tOp (rI CPow fun i j => .int ((fun i j => i ^ j.toNat) i j)) ta tb) (wOp (dI CPow fun i j => i ^ j.toNat) wa wb) := fe_op (opd_I op_pow) ha hb
theorem fe_shl (ha : FE X L W a ta wa) (hb : FE X L W c tb wb) : FE X L W (.BinOp a .LShift c pos) (tOp (rI CPow fun i j => .int ((fun i j => i * 2 ^ j.toNat) i j)) ta tb) (wOp (dI CPow fun i j => i * 2 ^ j.toNat) wa wb) := fe_op (opd_I op_shl) ha hb
theorem fe_shr (ha : FE X L W a ta wa) (hb : FE X L W c tb wb) : FE X L W (.BinOp a .RShift c pos) (tOp (rI (fun _ j => 0 ≤ j) fun i j => .int ((fun i j => i / 2 ^ j.toNat) i j)) ta tb) (wOp (dI (fun _ j => 0 ≤ j) fun i j => i / 2 ^ j.toNat) wa wb) := fe_op (opd_I op_shr) ha hb
theorem fe_xor (ha : FE X L W a ta wa) (hb : FE X L W c tb wb) : FE X L W (.BinOp a .BitXor c pos) (tOp (rI0 fun i j => .int ((Builtin.bitXor) i j)) ta tb) (wOp (dI0 Builtin.bitXor) wa wb) := fe_op (opd_I0 op_xor) ha hb
theorem fe_and (ha : FE X L W a ta wa) (hb : FE X L W c tb wb) : FE X L W (.BinOp a .BitAnd c pos) (tOp (rI0 fun i j => .int ((Builtin.bitAnd) i j)) ta tb) (wOp (dI0 Builtin.bitAnd) wa wb) := fe_op (opd_I0 op_and) ha hb
def wNeg (wa : We) : We := fun s Q R => wa s (fun d => match d with | .int i => Q (.int (-i)) | _ => False) R
theorem fe_neg (ha : FE X L W a ta wa) : FE X L W (.UnaryOp .USub a pos) (tUn (rU fun i => .int (-i)) ta) (wNeg wa) := by
  refine ⟨pe_un un_neg ha.pe, fun b F s σ H Q R k I h hx kk => ?_⟩
  refine ha.snd b F s σ H _ R _ I h hx fun F1 d1 v1 H1 I1 m1 k1 r1 h1 => ?_
  split at h1
  · cases r1
    exact ⟨_, rfl, kk F1 _ _ H1 I1 m1 k1 (.int _) h1⟩
  · exact h1.elim

/-! ### comparisons -/
/-- a comparison by data: two operands told or looked at -/
structure CmD (X : Cx) (L : Lw) (op : CmpOp) (r : R2) (w : D → D → (Bool → Prop) → Prop) : Prop where
  opr : OpR X (compareOp op) r
  mrk : op ≠ .In ∧ op ≠ .NotIn
  snd : ∀ (b : Beg) (F : Hp) (s : Sl) (σ : L2.St) (H : Hp) (x y : V) (d e : D) (Q : Bool → Prop) (k : VK), Rel X.K L b F s σ H → DpB X.K b F H x d → DpB X.K b F H y e → w d e Q → (∀ c, Q c → k (.bl c) H) → r x y H k
theorem DpB.keep {K : PySem.W.Frag} {b : Beg} {F F' H H' : Hp} {v : V} {d : D} (h : DpB K b F H v d) (m : Same F F') (kp : Kp b H H') : DpB K b F' H' v d := by
  rcases h with h | ⟨a, vs, ds, e1, e2, e3, e4, e5⟩
  · exact .inl (dp_mono m h)
  · exact .inr ⟨a, vs, ds, e1, e2, e3, kp _ _ e4 e3 (fun ps z => by cases z), dps_mono m e5⟩
/-- what is looked at, over the heap as it is -/
theorem DpB.at {K : PySem.W.Frag} {b : Beg} {F H : Hp} {v : V} {d : D} (h : DpB K b F H v d) (m : Same F H) : Dt K H v d := by
  rcases h with h | ⟨a, vs, ds, rfl, rfl, e3, e4, e5⟩
  · exact dp_mono m h
  · exact .lst (.inl (.inl e4)) (dps_mono m e5)
def wCmpV (w : D → D → (Bool → Prop) → Prop) (wa wb : We) : We := fun s Q R => wa s (fun x => wb s (fun y => w x y fun z => Q (.bool z)) R) R
def wCmpT (w : D → D → (Bool → Prop) → Prop) (wa wb : We) : Wt := fun s Q R => wa s (fun x => wb s (fun y => w x y Q) R) R
theorem fe_cmp {op : CmpOp} {r : R2} {w : D → D → (Bool → Prop) → Prop} (o : CmD X L op r w) (ha : FB X L W a ta wa) (hb : FB X L W c tb wb) : FE X L W (.Compare a [op] [c] pos) (tOp r ta tb) (wCmpV w wa wb) := by
  refine ⟨pe_cmpR o.opr ha.pe hb.pe (nomark _ o.mrk.1 o.mrk.2), fun b F s σ H Q R k I h hx kk => ?_⟩
  refine ha.snd b F s σ H _ R _ I h hx fun F1 d1 v1 H1 I1 m1 k1 r1 h1 => ?_
  refine hb.snd b F1 s σ H1 _ R _ I1 h1 (hx.mono m1) fun F2 d2 v2 H2 I2 m2 k2 r2 h2 => ?_
  exact o.snd b F2 s σ H2 v1 v2 d1 d2 _ k I2 (r1.keep m2 k2) r2 h2 fun z q => kk F2 _ _ H2 I2 (m1.trans m2) (k1.trans k2) (.bl z) q
theorem ft_cmp {op : CmpOp} {r : R2} {w : D → D → (Bool → Prop) → Prop} (o : CmD X L op r w) (ha : FB X L W a ta wa) (hb : FB X L W c tb wb) : FT X L W (.Compare a [op] [c] pos) (tTest (tOp r ta tb)) (wCmpT w wa wb) := by
  refine ⟨pt_cmpR o.opr ha.pe hb.pe (nomark _ o.mrk.1 o.mrk.2), fun b F s σ H Q R k I h hx kk => ?_⟩
  refine ha.snd b F s σ H _ R _ I h hx fun F1 d1 v1 H1 I1 m1 k1 r1 h1 => ?_
  refine hb.snd b F1 s σ H1 _ R _ I1 h1 (hx.mono m1) fun F2 d2 v2 H2 I2 m2 k2 r2 h2 => ?_
  exact o.snd b F2 s σ H2 v1 v2 d1 d2 _ _ I2 (r1.keep m2 k2) r2 h2 fun z q => ⟨z, rfl, kk F2 z H2 I2 (m1.trans m2) (k1.trans k2) q⟩
/-- two scalars whose == is plain, or two that are laid as data -/
def scalD : D → D → Bool
  | .none, .none => true | .none, .int _ => true | .int _, .none => true | .none, .bool _ => true | .bool _, .none => true | .none, .str _ => true | .str _, .none => true
  | .int _, .int _ => true | .bool _, .bool _ => true | .str _, .str _ => true
  | .int _, .str _ => true | .str _, .int _ => true | .bool _, .str _ => true | .str _, .bool _ => true
  | _, _ => false
def EqOk (d e : D) : Prop := scalD d e = true ∨ (SeqAt.shaped d = true ∧ SeqAt.shaped e = true)
def dEq : D → D → (Bool → Prop) → Prop := fun d e Q => EqOk d e ∧ Q (PyData.eqv d e)
def dNe : D → D → (Bool → Prop) → Prop := fun d e Q => EqOk d e ∧ Q (!PyData.eqv d e)
abbrev rEqA (K : PySem.W.Frag) : R2 := fun x y H Q => rEq x y H Q ∨ rEqD K x y H Q
abbrev rNeA (K : PySem.W.Frag) : R2 := fun x y H Q => rNe x y H Q ∨ rNeD K x y H Q
theorem scal_eq {K : PySem.W.Frag} {H : Hp} {x y : V} {d e : D} (hx : Dt K H x d) (hy : Dt K H y e) (h : scalD d e = true) : scal x y = true ∧ decide (x = y) = PyData.eqv d e := by
  have ne : ∀ {b c : Bool}, (b == c) = decide (b = c) := fun {b c} => by cases b <;> cases c <;> rfl
  cases hx <;> cases hy <;> first
    | (refine ⟨rfl, ?_⟩; first | rfl | (rw [PyData.eqv]; first | exact dec_int | exact dec_bl | exact dec_str) | (simp only [PyData.eqv]; rfl) | (simp [PyData.eqv]))
    | (cases h)
theorem cmd_eq {k : Nat} (hr : Room k X.A) : CmD X L .Eq (rEqA X.K) dEq := by
  refine ⟨op_eq.or (op_eqD hr.units), ⟨by decide, by decide⟩, fun b F s σ H x y d e Q k I hx hy q kk => ?_⟩
  have hx' := hx.at I.sub
  have hy' := hy.at I.sub
  rcases q.1 with h | h
  · obtain ⟨h1, h2⟩ := scal_eq hx' hy' h
    exact .inl ⟨h1, by rw [h2]; exact kk _ q.2⟩
  · exact .inr ⟨d, e, dt_dp hx', dt_dp hy', h.1, h.2, kk _ q.2⟩
theorem cmd_ne {k : Nat} (hr : Room k X.A) : CmD X L .NotEq (rNeA X.K) dNe := by
  refine ⟨op_ne.or (op_neD hr.units), ⟨by decide, by decide⟩, fun b F s σ H x y d e Q k I hx hy q kk => ?_⟩
  have hx' := hx.at I.sub
  have hy' := hy.at I.sub
  rcases q.1 with h | h
  · obtain ⟨h1, h2⟩ := scal_eq hx' hy' h
    exact .inl ⟨h1, by rw [h2]; exact kk _ q.2⟩
  · exact .inr ⟨d, e, dt_dp hx', dt_dp hy', h.1, h.2, kk _ q.2⟩
def dO (p : Int → Int → Bool) : D → D → (Bool → Prop) → Prop := fun d e Q => match d, e with
  | .int i, .int j => Q (p i j)
  | _, _ => False
theorem cmd_O {op : CmpOp} {p : Int → Int → Bool} (h : OpR X (compareOp op) (rI0 fun i j => .bl (p i j))) (hm : op ≠ .In ∧ op ≠ .NotIn) : CmD X L op (rI0 fun i j => .bl (p i j)) (dO p) := by
  refine ⟨h, hm, fun b F s σ H x y d e Q k I hx hy q kk => ?_⟩
  unfold dO at q
  split at q
  · have hx' := hx.at I.sub
    have hy' := hy.at I.sub
    cases hx'; cases hy'
    exact ⟨_, _, rfl, rfl, kk _ q⟩
  · exact q.elim
theorem cmd_lt : CmD X L .Lt (rI0 fun i j => .bl (decide (i < j))) (dO fun i j => decide (i < j)) := cmd_O op_lt ⟨by decide, by decide⟩
theorem cmd_le : CmD X L .LtE (rI0 fun i j => .bl (decide (i ≤ j))) (dO fun i j => decide (i ≤ j)) := cmd_O op_le ⟨by decide, by decide⟩
theorem cmd_gt : CmD X L .Gt (rI0 fun i j => .bl (decide (j < i))) (dO fun i j => decide (j < i)) := cmd_O op_gt ⟨by decide, by decide⟩
theorem cmd_ge : CmD X L .GtE (rI0 fun i j => .bl (decide (j ≤ i))) (dO fun i j => decide (j ≤ i)) := cmd_O op_ge ⟨by decide, by decide⟩
def isNoneD : D → Bool
  | .none => true
  | _ => false
def dIsN : D → D → (Bool → Prop) → Prop := fun d e Q => match e with
  | .none => Q (isNoneD d)
  | .bool c => (match d with | .bool b => Q (decide (b = c)) | _ => False)
  | _ => False
def dNotN : D → D → (Bool → Prop) → Prop := fun d e Q => match e with
  | .none => Q (!isNoneD d)
  | .bool c => (match d with | .bool b => Q (!decide (b = c)) | _ => False)
  | _ => False
abbrev rIsA : R2 := fun x y H Q => (y = .non ∧ Q (.bl (decide (x = .non))) H) ∨ rIsB x y H Q
abbrev rNotA : R2 := fun x y H Q => (y = .non ∧ Q (.bl (!decide (x = .non))) H) ∨ rNotB x y H Q
theorem isn_dec {K : PySem.W.Frag} {H : Hp} {x : V} {d : D} (hx : Dt K H x d) : decide (x = .non) = isNoneD d := by
  cases hx <;> first | rfl | (apply decide_eq_false; intro z; cases z)
theorem cmd_is : CmD X L .Is rIsA dIsN := by
  refine ⟨op_isN.or op_isBl, ⟨by decide, by decide⟩, fun b F s σ H x y d e Q k I hx hy q kk => ?_⟩
  have hx' := hx.at I.sub
  have hy' := hy.at I.sub
  unfold dIsN at q
  split at q
  · cases hy'
    exact .inl ⟨rfl, by rw [isn_dec hx']; exact kk _ q⟩
  · split at q
    · cases hx'; cases hy'
      exact .inr ⟨_, _, rfl, rfl, kk _ q⟩
    · exact q.elim
  · exact q.elim
theorem cmd_isnot : CmD X L .IsNot rNotA dNotN := by
  refine ⟨op_notN.or op_notBl, ⟨by decide, by decide⟩, fun b F s σ H x y d e Q k I hx hy q kk => ?_⟩
  have hx' := hx.at I.sub
  have hy' := hy.at I.sub
  unfold dNotN at q
  split at q
  · cases hy'
    refine .inl ⟨rfl, ?_⟩
    rw [isn_dec hx']
    exact kk _ q
  · split at q
    · cases hx'; cases hy'
      exact .inr ⟨_, _, rfl, rfl, kk _ q⟩
    · exact q.elim
  · exact q.elim
end
end FL

/-! FL4: tests, subscripts, displays, calls. -/
namespace FL
open PySem PySem.Spec PyProof.Rows L2
section
variable {X : Cx} {L : Lw} {W : WX} {pos : Pos} {a c e : Expr} {ta tb tc te : TE} {wa wb wc we : We} {tA tB' : TT} {vA vB : Wt} {rest : List Expr}

/-! ### tests -/
def wAndT (va vb : Wt) : Wt := fun s Q R => va s (fun c => cond c (vb s Q R) (Q false)) R
def wOrT (va vb : Wt) : Wt := fun s Q R => va s (fun c => cond c (Q true) (vb s Q R)) R
def wNotT (va : Wt) : Wt := fun s Q R => va s (fun c => Q (!c)) R
theorem ft_w (h : FW X L W e tA vA) : FT X L W e tA vA := ⟨h.pe.pt, h.snd⟩
theorem fw_and1 (h : FT X L W a tA vA) : FW X L W (.BoolOp .And [a] pos) tA vA := ⟨pw_and1 h.pe, h.snd⟩
theorem fw_or1 (h : FT X L W a tA vA) : FW X L W (.BoolOp .Or [a] pos) tA vA := ⟨pw_or1 h.pe, h.snd⟩
theorem fw_and (ha : FT X L W a tA vA) (hb : FW X L W (.BoolOp .And (c :: rest) pos) tB' vB) : FW X L W (.BoolOp .And (a :: c :: rest) pos) (tAnd tA tB') (wAndT vA vB) := by
  refine ⟨pw_and ha.pe hb.pe, fun b F s σ H Q R k I h hx kk => ?_⟩
  refine ha.snd b F s σ H _ R _ I h hx fun F1 z H1 I1 m1 k1 h1 => ?_
  cases z with
  | true =>
    rw [if_pos rfl]
    exact hb.snd b F1 s σ H1 Q R k I1 h1 (hx.mono m1) fun F2 z2 H2 I2 m2 k2 q => kk F2 z2 H2 I2 (m1.trans m2) (k1.trans k2) q
  | false =>
    rw [if_neg Bool.false_ne_true]
    exact kk F1 false H1 I1 m1 k1 h1
theorem fw_or (ha : FT X L W a tA vA) (hb : FW X L W (.BoolOp .Or (c :: rest) pos) tB' vB) : FW X L W (.BoolOp .Or (a :: c :: rest) pos) (tOr tA tB') (wOrT vA vB) := by
  refine ⟨pw_or ha.pe hb.pe, fun b F s σ H Q R k I h hx kk => ?_⟩
  refine ha.snd b F s σ H _ R _ I h hx fun F1 z H1 I1 m1 k1 h1 => ?_
  cases z with
  | true =>
    rw [if_pos rfl]
    exact kk F1 true H1 I1 m1 k1 h1
  | false =>
    rw [if_neg Bool.false_ne_true]
    exact hb.snd b F1 s σ H1 Q R k I1 h1 (hx.mono m1) fun F2 z2 H2 I2 m2 k2 q => kk F2 z2 H2 I2 (m1.trans m2) (k1.trans k2) q
theorem ft_not (ha : FT X L W a tA vA) : FT X L W (.UnaryOp .Not a pos) (tNot tA) (wNotT vA) := by
  refine ⟨pt_not ha.pe, fun b F s σ H Q R k I h hx kk => ?_⟩
  exact ha.snd b F s σ H _ R _ I h hx fun F1 z H1 I1 m1 k1 h1 => kk F1 (!z) H1 I1 m1 k1 h1
/-- truth by data -/
def truOk : D → Prop
  | .str x => x.length ≤ sizeLine
  | .dict _ => False
  | _ => True
def truD : D → Bool
  | .none => false
  | .bool b => b
  | .int i => i != 0
  | .str x => (x.length : Int) != 0
  | .list xs => !xs.isEmpty
  | .tuple xs => !xs.isEmpty
  | .dict _ => false
theorem emp_len {vs : List V} {ds : List D} (h : vs.length = ds.length) : (!vs.isEmpty) = !ds.isEmpty := by
  cases vs <;> cases ds <;> first | rfl | simp at h
theorem tru_of {K : PySem.W.Frag} {H : Hp} {x : V} {d : D} (hx : Dt K H x d) (h : truOk d) : TruV K x H (truD d) := by
  cases hx with
  | non => rfl
  | bl b => rfl
  | int i => rfl
  | str x => exact ⟨h, rfl⟩
  | lst h1 h2 => exact .inl ⟨_, h1, (emp_len (dps_len h2)).symm⟩
  | tup h1 h2 => exact .inr (.inl ⟨_, h1, (emp_len (dps_len h2)).symm⟩)
def wTruT (wa : We) : Wt := fun s Q R => wa s (fun d => truOk d ∧ Q (truD d)) R
theorem ft_truth (ha : FB X L W a ta wa) (he : ∀ whole, isTrue a X.env whole = (do let v ← whole; standAt a.pos; holding [v] (truthy v)) := by intro _; rfl) : FT X L W a (fun σ H Q => ta σ H fun x H' => ∃ k, TruV X.K x H' k ∧ Q k H') (wTruT wa) := by
  refine ⟨pt_truth ha.pe he, fun b F s σ H Q R k I h hx kk => ?_⟩
  exact ha.snd b F s σ H _ R _ I h hx fun F1 d v H1 I1 m1 k1 r1 h1 => ⟨_, tru_of (r1.at I1.sub) h1.1, kk F1 _ H1 I1 m1 k1 h1.2⟩
def wNotV (wa : We) : We := fun s Q R => wa s (fun d => truOk d ∧ Q (.bool (!truD d))) R
theorem fe_not (ha : FB X L W a ta wa) : FE X L W (.UnaryOp .Not a pos) (tNotT X.K ta) (wNotV wa) := by
  refine ⟨pe_notT ha.pe, fun b F s σ H Q R k I h hx kk => ?_⟩
  exact ha.snd b F s σ H _ R _ I h hx fun F1 d v H1 I1 m1 k1 r1 h1 => ⟨_, tru_of (r1.at I1.sub) h1.1, kk F1 _ _ H1 I1 m1 k1 (.bl _) h1.2⟩
/-- and, or as values: the first by its truth -/
def wAndV (wa wb : We) : We := fun s Q R => wa s (fun d => truOk d ∧ cond (truD d) (wb s Q R) (Q d)) R
def wOrV (wa wb : We) : We := fun s Q R => wa s (fun d => truOk d ∧ cond (truD d) (Q d) (wb s Q R)) R
theorem fe_one {op : BoolOp} (ha : FE X L W a ta wa) : FE X L W (.BoolOp op [a] pos) ta wa := ⟨pe_one ha.pe, ha.snd⟩
theorem fe_andV (ha : FE X L W a ta wa) (hb : FE X L W (.BoolOp .And (c :: rest) pos) tb wb) : FE X L W (.BoolOp .And (a :: c :: rest) pos) (tAndT X.K ta tb) (wAndV wa wb) := by
  refine ⟨pe_andT ha.pe hb.pe, fun b F s σ H Q R k I h hx kk => ?_⟩
  refine ha.snd b F s σ H _ R _ I h hx fun F1 d v H1 I1 m1 k1 r1 h1 => ⟨truD d, tru_of (dp_mono I1.sub r1) h1.1, ?_⟩
  cases z : truD d with
  | true =>
    rw [if_pos rfl]
    exact hb.snd b F1 s σ H1 Q R k I1 (by have := h1.2; rw [z] at this; exact this) (hx.mono m1) fun F2 d2 v2 H2 I2 m2 k2 r2 q => kk F2 d2 v2 H2 I2 (m1.trans m2) (k1.trans k2) r2 q
  | false =>
    rw [if_neg Bool.false_ne_true]
    exact kk F1 d v H1 I1 m1 k1 r1 (by have := h1.2; rw [z] at this; exact this)
theorem fe_orV (ha : FE X L W a ta wa) (hb : FE X L W (.BoolOp .Or (c :: rest) pos) tb wb) : FE X L W (.BoolOp .Or (a :: c :: rest) pos) (tOrT X.K ta tb) (wOrV wa wb) := by
  refine ⟨pe_orT ha.pe hb.pe, fun b F s σ H Q R k I h hx kk => ?_⟩
  refine ha.snd b F s σ H _ R _ I h hx fun F1 d v H1 I1 m1 k1 r1 h1 => ⟨truD d, tru_of (dp_mono I1.sub r1) h1.1, ?_⟩
  cases z : truD d with
  | true =>
    rw [if_pos rfl]
    exact kk F1 d v H1 I1 m1 k1 r1 (by have := h1.2; rw [z] at this; exact this)
  | false =>
    rw [if_neg Bool.false_ne_true]
    exact hb.snd b F1 s σ H1 Q R k I1 (by have := h1.2; rw [z] at this; exact this) (hx.mono m1) fun F2 d2 v2 H2 I2 m2 k2 r2 q => kk F2 d2 v2 H2 I2 (m1.trans m2) (k1.trans k2) r2 q
def wIf (vt : Wt) (wa wb : We) : We := fun s Q R => vt s (fun c => cond c (wa s Q R) (wb s Q R)) R
theorem fe_if (ht : FT X L W e tA vA) (ha : FE X L W a ta wa) (hb : FE X L W c tb wb) : FE X L W (.IfExp e a c pos) (tIf tA ta tb) (wIf vA wa wb) := by
  refine ⟨pe_ifExp ht.pe ha.pe hb.pe, fun b F s σ H Q R k I h hx kk => ?_⟩
  refine ht.snd b F s σ H _ R _ I h hx fun F1 z H1 I1 m1 k1 h1 => ?_
  cases z with
  | true =>
    rw [if_pos rfl]
    exact ha.snd b F1 s σ H1 Q R k I1 h1 (hx.mono m1) fun F2 d2 v2 H2 I2 m2 k2 r2 q => kk F2 d2 v2 H2 I2 (m1.trans m2) (k1.trans k2) r2 q
  | false =>
    rw [if_neg Bool.false_ne_true]
    exact hb.snd b F1 s σ H1 Q R k I1 h1 (hx.mono m1) fun F2 d2 v2 H2 I2 m2 k2 r2 q => kk F2 d2 v2 H2 I2 (m1.trans m2) (k1.trans k2) r2 q
/-- a op1 b op2 c -/
def wChain (w w' : D → D → (Bool → Prop) → Prop) (wa wb wc : We) : Wt := fun s Q R => wa s (fun x => wb s (fun y => w x y fun c1 => cond c1 (wc s (fun z => w' y z Q) R) (Q false)) R) R
theorem snd_chain {op op' : CmpOp} {r r' : R2} {w w' : D → D → (Bool → Prop) → Prop} (o : CmD X L op r w) (o' : CmD X L op' r' w') (ha : FE X L W a ta wa) (hb : FE X L W c tb wb) (hc : FE X L W e tc wc)
    (b : Beg) (F : Hp) (s : Sl) (σ : L2.St) (H : Hp) (Q : Bool → Prop) (R : Value → Prop) (k : Bool → Hp → Prop) (I : Rel X.K L b F s σ H) (h : wChain w w' wa wb wc s Q R) (hx : Exw X.K L W b F s σ R)
    (kk : ∀ F' z H', Rel X.K L b F' s σ H' → Same F F' → Kp b H H' → Q z → k z H') : tChain r r' ta tb tc σ H fun x H' => ∃ z, x = .bl z ∧ k z H' := by
  refine ha.snd b F s σ H _ R _ I h hx fun F1 d1 v1 H1 I1 m1 k1 r1 h1 => ?_
  refine hb.snd b F1 s σ H1 _ R _ I1 h1 (hx.mono m1) fun F2 d2 v2 H2 I2 m2 k2 r2 h2 => ?_
  refine o.snd b F2 s σ H2 v1 v2 d1 d2 _ _ I2 (.inl (dp_mono m2 r1)) (.inl r2) h2 fun z q => ⟨z, rfl, ?_⟩
  cases z with
  | true =>
    rw [if_pos rfl]
    refine hc.snd b F2 s σ H2 _ R _ I2 q (hx.mono (m1.trans m2)) fun F3 d3 v3 H3 I3 m3 k3 r3 h3 => ?_
    exact o'.snd b F3 s σ H3 v2 v3 d2 d3 _ _ I3 (.inl (dp_mono m3 r2)) (.inl r3) h3 fun z q => ⟨z, rfl, kk F3 z H3 I3 (m1.trans (m2.trans m3)) (k1.trans (k2.trans k3)) q⟩
  | false =>
    rw [if_neg Bool.false_ne_true]
    exact ⟨false, rfl, kk F2 false H2 I2 (m1.trans m2) (k1.trans k2) q⟩
theorem ft_chain {op op' : CmpOp} {r r' : R2} {w w' : D → D → (Bool → Prop) → Prop} (o : CmD X L op r w) (o' : CmD X L op' r' w') (ha : FE X L W a ta wa) (hb : FE X L W c tb wb) (hc : FE X L W e tc wc)
    (hm : lastMarks [op, op'] [c, e] = false := by with_unfolding_all rfl) : FT X L W (.Compare a [op, op'] [c, e] pos) (tTest (tChain r r' ta tb tc)) (wChain w w' wa wb wc) :=
  ⟨pt_chain o.opr o'.opr ha.pe hb.pe hc.pe hm, fun b F s σ H Q R k I h hx kk => snd_chain o o' ha hb hc b F s σ H Q R k I h hx kk⟩
def wBoolV (v : Wt) : We := fun s Q R => v s (fun z => Q (.bool z)) R
theorem fe_chain {op op' : CmpOp} {r r' : R2} {w w' : D → D → (Bool → Prop) → Prop} (o : CmD X L op r w) (o' : CmD X L op' r' w') (ha : FE X L W a ta wa) (hb : FE X L W c tb wb) (hc : FE X L W e tc wc)
    (hm : lastMarks [op, op'] [c, e] = false := by with_unfolding_all rfl) : FE X L W (.Compare a [op, op'] [c, e] pos) (tChain r r' ta tb tc) (wBoolV (wChain w w' wa wb wc)) := by
  refine ⟨pe_chain o.opr o'.opr ha.pe hb.pe hc.pe hm, fun b F s σ H Q R k I h hx kk => ?_⟩
  refine ha.snd b F s σ H _ R _ I h hx fun F1 d1 v1 H1 I1 m1 k1 r1 h1 => ?_
  refine hb.snd b F1 s σ H1 _ R _ I1 h1 (hx.mono m1) fun F2 d2 v2 H2 I2 m2 k2 r2 h2 => ?_
  refine o.snd b F2 s σ H2 v1 v2 d1 d2 _ _ I2 (.inl (dp_mono m2 r1)) (.inl r2) h2 fun z q => ⟨z, rfl, ?_⟩
  cases z with
  | true =>
    rw [if_pos rfl]
    refine hc.snd b F2 s σ H2 _ R _ I2 q (hx.mono (m1.trans m2)) fun F3 d3 v3 H3 I3 m3 k3 r3 h3 => ?_
    exact o'.snd b F3 s σ H3 v2 v3 d2 d3 _ _ I3 (.inl (dp_mono m3 r2)) (.inl r3) h3 fun z q => kk F3 _ _ H3 I3 (m1.trans (m2.trans m3)) (k1.trans (k2.trans k3)) (.bl z) q
  | false =>
    rw [if_neg Bool.false_ne_true]
    exact kk F2 _ _ H2 I2 (m1.trans m2) (k1.trans k2) (.bl false) q

/-! ### a[i] -/
/-- the place of the item i -/
def wIx (wa wb : We) : We := fun s Q R => wa s (fun x => wb s (fun y => match x, y with
  | .list ds, .int i => ∃ d, atI ds i = some d ∧ Q d
  | .tuple ds, .int i => ∃ d, atI ds i = some d ∧ Q d
  | .str z, .int i => z.length ≤ sizeLine ∧ ∃ n, atI z.cps.toList i = some n ∧ Q (.str ⟨#[n]⟩)
  | _, _ => False) R) R
theorem atI_dps {K : PySem.W.Frag} {F : Hp} {vs : List V} {ds : List D} {i : Int} {d : D} (h : DtAll K F vs ds) (e : atI ds i = some d) : ∃ v, atI vs i = some v ∧ Dt K F v d := by
  unfold atI at e ⊢
  rw [dps_len h]
  cases q : ixN ds.length i with
  | none => rw [q] at e; cases e
  | some j =>
    rw [q] at e
    exact dps_get h e
theorem fe_ix (ha : FB X L W a ta wa) (hb : FE X L W c tb wb) (hs : PlainIx c := by intro _ _; rfl) : FE X L W (.Subscript a c pos) (tOp (rIx X.K) ta tb) (wIx wa wb) := by
  refine ⟨pe_ix ix_seq ha.pe hb.pe hs, fun b F s σ H Q R k I h hx kk => ?_⟩
  refine ha.snd b F s σ H _ R _ I h hx fun F1 d1 v1 H1 I1 m1 k1 r1 h1 => ?_
  refine hb.snd b F1 s σ H1 _ R _ I1 h1 (hx.mono m1) fun F2 d2 v2 H2 I2 m2 k2 r2 h2 => ?_
  have r1' := r1.keep m2 k2
  split at h2
  · cases r2
    obtain ⟨d, e1, q⟩ := h2
    rcases r1' with r1' | ⟨x, vs, ds', rfl, e2, e3, e4, e5⟩
    · cases r1' with
      | lst h3 h4 =>
        obtain ⟨v, e5, e6⟩ := atI_dps h4 e1
        exact .inl ⟨_, _, _, v, rfl, rfl, I2.sub.seq h3, e5, kk F2 d v H2 I2 (m1.trans m2) (k1.trans k2) e6 q⟩
    · cases e2
      obtain ⟨v, e6, e7⟩ := atI_dps e5 e1
      exact .inl ⟨_, _, _, v, rfl, rfl, .inl (.inl e4), e6, kk F2 d v H2 I2 (m1.trans m2) (k1.trans k2) e7 q⟩
  · cases r2
    obtain ⟨d, e1, q⟩ := h2
    rcases r1' with r1' | ⟨x, vs, ds', rfl, e2, e3, e4, e5⟩
    · cases r1' with
      | tup h3 h4 =>
        obtain ⟨v, e5, e6⟩ := atI_dps h4 e1
        exact .inr (.inl ⟨_, _, _, v, rfl, rfl, same_sqT I2.sub h3, e5, kk F2 d v H2 I2 (m1.trans m2) (k1.trans k2) e6 q⟩)
    · cases e2
  · cases r2
    obtain ⟨hl, n, e1, q⟩ := h2
    rcases r1' with r1' | ⟨x, vs, ds', rfl, e2, e3, e4, e5⟩
    · cases r1'
      exact .inr (.inr ⟨_, _, n, rfl, rfl, hl, e1, kk F2 _ _ H2 I2 (m1.trans m2) (k1.trans k2) (.str _) q⟩)
    · cases e2
  · exact h2.elim

/-! ### items from the left -/
structure FLs (X : Cx) (L : Lw) (W : WX) (es : List Expr) (t : TA) (w : Wl) : Prop where
  pe : PA X es t
  snd : ∀ (b : Beg) (F : Hp) (s : Sl) (σ : L2.St) (H : Hp) (Q : List D → Prop) (R : Value → Prop) (k : List V → Hp → Prop), Rel X.K L b F s σ H → w s Q R → Exw X.K L W b F s σ R →
    (∀ F' ds vs H', Rel X.K L b F' s σ H' → Same F F' → Kp b H H' → DtAll X.K F' vs ds → Q ds → k vs H') → t σ H k
def wNil : Wl := fun _ Q _ => Q []
def wCons (wa : We) (wr : Wl) : Wl := fun s Q R => wa s (fun x => wr s (fun xs => Q (x :: xs)) R) R
variable {es : List Expr} {t : TA} {wl : Wl}
theorem fl_nil : FLs X L W [] tNil wNil := ⟨pa_nil, fun b F s σ H Q R k I h hx kk => kk F [] [] H I (Same.refl F) Kp.refl .nil h⟩
theorem fl_cons (ha : FE X L W a ta wa) (hr : FLs X L W es t wl) (hs : starEach (a :: es) X.env = (false, eval a X.env) :: starEach es X.env := by rfl) : FLs X L W (a :: es) (tCons ta t) (wCons wa wl) := by
  refine ⟨pa_cons ha.pe hr.pe hs, fun b F s σ H Q R k I h hx kk => ?_⟩
  refine ha.snd b F s σ H _ R _ I h hx fun F1 d1 v1 H1 I1 m1 k1 r1 h1 => ?_
  exact hr.snd b F1 s σ H1 _ R _ I1 h1 (hx.mono m1) fun F2 ds vs H2 I2 m2 k2 r2 h2 => kk F2 _ _ H2 I2 (m1.trans m2) (k1.trans k2) (.cons (dp_mono m2 r1) r2) h2
def wTup (wl : Wl) : We := fun s Q R => wl s (fun ds => ds.length ≤ sizeLine ∧ Q (.tuple ds)) R
theorem fe_tup {k : Nat} (h : FLs X L W es t wl) : FE X L W (.Tuple es k pos) (tTup t) (wTup wl) := by
  refine ⟨pe_tup h.pe, fun b F s σ H Q R k I q hx kk => ?_⟩
  refine h.snd b F s σ H _ R _ I q hx fun F1 ds vs H1 I1 m1 k1 r1 h1 => ⟨by rw [dps_len r1]; exact h1.1, fun p hp => ?_⟩
  have hf := I1.f_none hp
  exact kk _ _ _ _ (I1.new1 hp (fun ps z => by cases z)) (m1.trans (same_upd hf)) (k1.trans (Kp.of (same_upd hp))) (.tup (.inl (.inl upd_same)) (dps_mono (same_upd hf) r1)) h1.2
def wLst (wl : Wl) : Wl := fun s Q R => wl s (fun ds => ds.length ≤ sizeLine ∧ Q ds) R
theorem fn_lst (h : FLs X L W es t wl) : FN X L W (.List es pos) (tLst t) (wLst wl) := by
  refine ⟨pe_lst h.pe, fun b F s σ H Q R k I q hx kk => ?_⟩
  refine h.snd b F s σ H _ R _ I q hx fun F1 ds vs H1 I1 m1 k1 r1 h1 => ⟨by rw [dps_len r1]; exact h1.1, fun p hp => ?_⟩
  exact kk F1 ds p vs _ (I1.lay hp) m1 (k1.trans (Kp.of (same_upd hp))) ⟨I1.live p hp, I1.dr_some hp, I1.f_none hp, fun i z => I1.ow_some hp i z⟩ upd_same r1 h1.2
/-- a new list as a datum -/
def wN (wl : Wl) : We := fun s Q R => wl s (fun ds => Q (.list ds)) R
theorem fe_n (h : FN X L W e te wl) : FE X L W e te (wN wl) := by
  refine ⟨h.pe, fun b F s σ H Q R k I q hx kk => ?_⟩
  refine h.snd b F s σ H _ R _ I q hx fun F1 ds p vs H1 I1 m1 k1 fr e1 r1 h1 => ?_
  exact kk _ _ _ _ (I1.tell fr.h0 fr.hd e1 fr.hf (fun ps z => by cases z) fr.hn) (m1.trans (same_upd fr.hf)) k1 (.lst (.inl (.inl upd_same)) (dps_mono (same_upd fr.hf) r1)) h1
/-- a new list, only looked at -/
theorem fb_n (h : FN X L W e te wl) : FB X L W e te (wN wl) := fb_fe (fe_n h)
end
end FL

/-! FL5: calls, defs, statements, loops. -/
namespace FL
open PySem PySem.Spec PyProof.Rows L2
section
variable {X : Cx} {L : Lw} {W : WX} {pos p : Pos} {a c e : Expr} {ta tb tc te : TE} {wa wb wc we : We} {tA tB' : TT} {vA vB : Wt} {rest es : List Expr} {t : TA} {wl : Wl} {v : Wa}

/-! ### arguments -/
theorem ArgOk.mono {K : PySem.W.Frag} {b : Beg} {F F' : Hp} {v : V} {c : Cel} (m : Same F F') (h : ArgOk K b F v c) : ArgOk K b F' v c := by
  cases c with
  | fz d => exact dp_mono m h
  | dr => exact h
  | no => exact h
  | ow ds => exact h
  | lk ds => exact h
  | px a => exact h
theorem ArgsOk.mono {K : PySem.W.Frag} {b : Beg} {F F' : Hp} (m : Same F F') : ∀ {vs : List V} {cs : List Cel}, ArgsOk K b F vs cs → ArgsOk K b F' vs cs
  | [], [], h => h
  | _ :: _, _ :: _, h => ⟨h.1.mono m, ArgsOk.mono m h.2⟩
  | [], _ :: _, h => h.elim
  | _ :: _, [], h => h.elim
theorem ArgsOk.len {K : PySem.W.Frag} {b : Beg} {F : Hp} : ∀ {vs : List V} {cs : List Cel}, ArgsOk K b F vs cs → vs.length = cs.length
  | [], [], _ => rfl
  | _ :: _, _ :: _, h => by simp [ArgsOk.len h.2]
  | [], _ :: _, h => h.elim
  | _ :: _, [], h => h.elim
def wANil : Wa := fun _ Q _ => Q []
def wACons (wa : We) (wr : Wa) : Wa := fun s Q R => wa s (fun x => wr s (fun xs => Q (.fz x :: xs)) R) R
def wADr (i : Nat) (wr : Wa) : Wa := fun s Q R => match s[i]? with
  | some .dr => wr s (fun xs => Q (.dr :: xs)) R
  | _ => False
theorem fa_nil : FA X L W [] tNil wANil := ⟨pa_nil, fun b F s σ H Q R k I h hx kk => kk F [] [] H I (Same.refl F) Kp.refl trivial h⟩
theorem fa_cons (ha : FE X L W a ta wa) (hr : FA X L W es t v) (hs : starEach (a :: es) X.env = (false, eval a X.env) :: starEach es X.env := by rfl) : FA X L W (a :: es) (tCons ta t) (wACons wa v) := by
  refine ⟨pa_cons ha.pe hr.pe hs, fun b F s σ H Q R k I h hx kk => ?_⟩
  refine ha.snd b F s σ H _ R _ I h hx fun F1 d1 v1 H1 I1 m1 k1 r1 h1 => ?_
  exact hr.snd b F1 s σ H1 _ R _ I1 h1 (hx.mono m1) fun F2 ds vs H2 I2 m2 k2 r2 h2 => kk F2 (.fz d1 :: ds) _ H2 I2 (m1.trans m2) (k1.trans k2) ⟨dp_mono m2 r1, r2⟩ h2
theorem fa_dr (i : Nat) {x : Str} (hr : FA X L W es t v) (hN : X.N[i]? = some x := by rfl) (hv : Vis X.env.scope x := by first | exact Or.inl rfl | exact Or.inr (Or.inl rfl) | exact Or.inr (Or.inr rfl)) (hd : (x == ("__debug__" : Str)) = false := by decide)
    (hcd : (x == ("__classdict__" : Str)) = false := by decide) (hs : starEach (.Name x pos :: es) X.env = (false, eval (.Name x pos) X.env) :: starEach es X.env := by rfl) : FA X L W (.Name x pos :: es) (tCons (tVar i) t) (wADr i v) := by
  refine ⟨pa_cons (pv i hN hv hd hcd) hr.pe hs, fun b F s σ H Q R k I h hx kk => ?_⟩
  unfold wADr at h
  split at h
  · rename_i e
    obtain ⟨p, e1, e2⟩ := I.slot i _ e
    have e3 : σ[i]? = some (some (.ref p)) := by
      rw [List.getD_eq_getElem?_getD] at e1
      cases q : σ[i]? with
      | none => rw [q] at e1; cases e1
      | some u => rw [q] at e1; exact congrArg some e1
    refine ⟨_, e3, ?_⟩
    exact hr.snd b F s σ H _ R _ I h hx fun F2 ds vs H2 I2 m2 k2 r2 h2 => kk F2 (.dr :: ds) _ H2 I2 m2 k2 ⟨⟨p, rfl, e2⟩, r2⟩ h2
  · exact h.elim

/-! ### a def's promise by data -/
abbrev Fs := List Cel → (D → Prop) → (Value → Prop) → Prop
def Spf (K : PySem.W.Frag) (L : Lw) (w : Fs) : Sp := fun vs H Q E => ∃ (b : Beg) (F : Hp) (cs : List Cel) (q : D → Prop) (r : Value → Prop), Grd K L b F H ∧ ArgsOk K b F vs cs ∧ w cs q r ∧
  (∀ F' v d H', Grd K L b F' H' → Same F F' → Dt K F' v d → q d → Q v H') ∧ ∀ cls F' H', Grd K L b F' H' → Same F F' → r cls → E cls none H'
section
variable {K : PySem.W.Frag} {b : Beg} {F F' : Hp} {s : Sl} {σ : L2.St} {H H' : Hp}
theorem Grd.enter (I : Grd K L b F H) : Grd K L ⟨H, F, b.dr⟩ F H :=
  ⟨I.sub, Same.refl F, fun _ _ h => .inl h, Kp.refl, fun _ h => h, I.drw, I.tab, I.ntb⟩
theorem Grd.back (I : Grd K L b F H) (g : Grd K L ⟨H, F, b.dr⟩ F' H') : Grd K L b F' H' where
  sub := g.sub
  old := I.old.trans g.old
  new := fun a o h => by
    rcases g.new a o h with h | h
    · exact I.new a o h
    · exact .inr (I.live a h)
  keep := I.keep.trans g.keep
  live := fun a h => I.live a (g.live a h)
  drw := g.drw
  tab := g.tab
  ntb := g.ntb
theorem Rel.back (I : Rel K L b F s σ H) (g : Grd K L ⟨H, F, b.dr⟩ F' H') : Rel K L b F' s σ H' :=
  { I.toGrd.back g with
    len := I.len
    slot := fun i c e => (I.slot i c e).mono g.old (fun a h1 h2 => by
      cases q : F' a with
      | none => rfl
      | some o =>
        rcases g.new a o q with h | h
        · rw [show F a = some o from h] at h1; cases h1
        · exact absurd h h2) g.keep
    apart := I.apart }
end
def wCall (w : Fs) (v : Wa) : We := fun s Q R => v s (fun cs => w cs Q R) R
theorem ArgsOk.at {K : PySem.W.Frag} {b : Beg} {F H : Hp} : ∀ {vs : List V} {cs : List Cel}, ArgsOk K b F vs cs → ArgsOk K ⟨H, F, b.dr⟩ F vs cs
  | [], [], h => trivial
  | _ :: _, c :: _, h => ⟨by cases c <;> exact h.1, ArgsOk.at h.2⟩
  | [], _ :: _, h => h.elim
  | _ :: _, [], h => h.elim
theorem fe_call {x : Str} {k : Nat} {f : Addr} {fd : FuncData} {ps : List Str} {w : Fs} (G : FnOk X.prog X.w X.K X.mg X.base (L2N.CX X.prog X.w) k f fd ps (Spf X.K L w)) (hr : Room k X.A) (tk : L2N.Takes X W) (hg : Gl X x) (hm : X.mg x = some (.ref f)) (hk : PySem.W.keepIn X.K (.ref f) = true) (hb : Binds X.K fd ps [])
    (ha : FA X L W (e :: es) t v) (hdb : (x == ("__debug__" : Str)) = false := by decide) (he : starEach (e :: es) X.env = (false, eval e X.env) :: starEach es X.env := by rfl) (hpl : (backTo pos (starEach es X.env)).any (·.1) = false := by rfl) :
    FE X L W (.Call (.Name x p) (e :: es) [] pos) (tCallS (Spf X.K L w) (fun σ cls d H => W cls d σ H) t) (wCall w v) := by
  refine ⟨pe_callS G hr hg hm hk hb (E := fun σ cls d H => W cls d σ H) (fun σ => L2N.passAt tk σ) ha.pe hdb he hpl, fun b F s σ H Q R k I h hx kk => ?_⟩
  refine ha.snd b F s σ H _ R _ I h hx fun F1 cs vs H1 I1 m1 k1 r1 h1 => ⟨⟨H1, F1, b.dr⟩, F1, cs, Q, R, I1.toGrd.enter, r1.at, h1, fun F' v d H' g m r q => ?_, fun cls F' H' g m q => ?_⟩
  · exact kk F' d v H' (I1.back g) (m1.trans m) (k1.trans g.keep) r q
  · exact hx cls F' H' (I1.back g) (m1.trans m) q

/-! ### a def's body -/
def startS (n : Nat) (cs : List Cel) : Sl := cs ++ List.replicate (n - cs.length) .no
theorem rel_start {K : PySem.W.Frag} {b : Beg} {F H : Hp} {N : List Str} {vs : List V} {cs : List Cel} (g : Grd K L b F H) (h : ArgsOk K b F vs cs) : Rel K L b F (startS N.length cs) (L2.start N vs) H := by
  have hl := h.len
  have notow : ∀ {vs : List V} {cs : List Cel}, ArgsOk K b F vs cs → ∀ (i : Nat) ds, cs[i]? ≠ some (.ow ds) := by
    intro vs cs
    induction cs generalizing vs with
    | nil => intro _ i ds z; simp at z
    | cons c cs ih =>
      intro h i ds z
      cases vs with
      | nil => exact h.elim
      | cons v vs =>
        cases i with
        | zero => simp at z; subst z; exact h.1
        | succ i => exact ih h.2 i ds (by simpa using z)
  have at_ : ∀ {vs : List V} {cs : List Cel}, ArgsOk K b F vs cs → ∀ (i : Nat) c, cs[i]? = some c → ∃ v, vs[i]? = some v ∧ ArgOk K b F v c := by
    intro vs cs
    induction cs generalizing vs with
    | nil => intro _ i c z; simp at z
    | cons c cs ih =>
      intro h i c' z
      cases vs with
      | nil => exact h.elim
      | cons v vs =>
        cases i with
        | zero => simp at z; subst z; exact ⟨v, rfl, h.1⟩
        | succ i =>
          obtain ⟨v', e, q⟩ := ih h.2 i c' (by simpa using z)
          exact ⟨v', by simpa using e, q⟩
  have noOw : ∀ (i : Nat), ¬ isOw (startS N.length cs)[i]? := fun i z => by
    unfold startS at z
    by_cases hi : i < cs.length
    · rw [List.getElem?_append_left hi] at z
      cases e : cs[i]? with
      | none => rw [e] at z; exact z
      | some c =>
        rw [e] at z
        cases c with
        | ow ds => exact notow h i ds e
        | _ => exact z
    · rw [List.getElem?_append_right (by omega), List.getElem?_replicate] at z
      split at z <;> exact z
  refine { g with len := ?_, slot := fun i c e => ?_, apart := fun i j a _ h1 => (noOw i h1).elim }
  · unfold startS L2.start
    simp [hl]
  · unfold startS at e
    by_cases hi : i < cs.length
    · rw [List.getElem?_append_left hi] at e
      obtain ⟨v, e1, q⟩ := at_ h i c e
      have e2 : (L2.start N vs).getD i none = some v := by
        unfold L2.start
        rw [List.getD_eq_getElem?_getD, List.getElem?_append_left (by simp; omega), List.getElem?_map, e1]
        rfl
      rw [e2]
      cases c with
      | no => trivial
      | fz d => exact ⟨v, rfl, q⟩
      | ow ds => exact q.elim
      | lk ds => exact q.elim
      | px a => exact congrArg some q
      | dr =>
        obtain ⟨a, e3, e4⟩ := q
        exact ⟨a, by rw [e3], e4⟩
    · rw [List.getElem?_append_right (by omega), List.getElem?_replicate] at e
      split at e
      · cases e; trivial
      · cases e
/-- a def by its body; the code object's value is told -/
theorem okC {P : Program} {w : World} {K : PySem.W.Frag} {mg : Str → Option Value} {base : Heap} {x qual : Str} {st : Stmt} {f : Addr} {fd : FuncData} {N ps : List Str} {k : Nat} {sp : Sp} (F : Fun K x qual st f fd) (S : FnScope N ps (defScope st)) (len : ∀ vs H Q E, sp vs H Q E → vs.length = ps.length)
    (hbody : ∀ (cdv : Value), fd.code = cdv → ∀ (A : Around) (outer : List Env) (s : Shared) (H : Hp) (vs : List V) (Q : VK) (E : XK), Room k (A.deeper (envOfC qual (defScope st) s.heap.objs.size f cdv)) → sp vs H Q E →
      ∃ t, PSs (cxOf (L2N.CX P w) P w K mg base N qual (defScope st) f cdv A outer s H E) (defBody st) t ∧ t { nx := fun _ H' => Q .non H', rt := Q } (L2.start N vs) H) : FnOk P w K mg base (L2N.CX P w) (k + 1) f fd ps sp := by
  obtain ⟨oc, od, kV, doc, pm, an, cdv, ct, osl, rfl, lk, hcd⟩ := F.ex
  exact fn_of lk hcd S len fun A outer s H vs Q E hr hsp => hbody cdv rfl A outer s H vs Q E hr hsp
/-- a def by its body: from the body's derivation and its reading -/
theorem fn_flat {P : Program} {w : World} {K : PySem.W.Frag} {mg : Str → Option Value} {base : Heap} {x qual : Str} {st : Stmt} {f : Addr} {fd : FuncData} {N ps : List Str} {k : Nat} {sp : Fs} (Fn : Fun K x qual st f fd) (S : FnScope N ps (defScope st)) (len : ∀ cs q r, sp cs q r → cs.length = ps.length)
    (hbody : ∀ (cdv : Value), fd.code = cdv → ∀ (A : Around) (outer : List Env) (s : Shared) (H : Hp) (E : XK), Room k (A.deeper (envOfC qual (defScope st) s.heap.objs.size f cdv)) →
      L2N.Takes (cxOf (L2N.CX P w) P w K mg base N qual (defScope st) f cdv A outer s H E) (fun cls d _ H => E cls d H) →
      PassesOwn (model P w) (cxOf (L2N.CX P w) P w K mg base N qual (defScope st) f cdv A outer s H E).A (cxOf (L2N.CX P w) P w K mg base N qual (defScope st) f cdv A outer s H E).env (cxOf (L2N.CX P w) P w K mg base N qual (defScope st) f cdv A outer s H E).xe →
      ∃ t ws, FSs (cxOf (L2N.CX P w) P w K mg base N qual (defScope st) f cdv A outer s H E) L (fun cls d _ H => E cls d H) (defBody st) t ws ∧ ∀ cs q r, sp cs q r → ws (startS N.length cs) { nx := fun _ => q .none, rt := q, ex := r }) :
    FnOk P w K mg base (L2N.CX P w) (k + 1) f fd ps (Spf K L sp) := by
  refine okC Fn S (fun vs H Q E h => ?_) (fun cdv hcd A outer s H vs Q E hr h => ?_)
  · obtain ⟨b, F, cs, q, r, g, ha, hw, _⟩ := h
    rw [ha.len]
    exact len cs q r hw
  · obtain ⟨t, ws, hd, hq⟩ := hbody cdv hcd A outer s H E hr (L2N.takes_of rfl rfl rfl rfl) (passes_of rfl)
    refine ⟨t, hd.pe, ?_⟩
    obtain ⟨b, F, cs, q, r, g, ha, hw, h1, h2⟩ := h
    refine hd.snd b F _ _ H { nx := fun _ => q .none, rt := q, ex := r } _ (rel_start g ha) (hq cs q r hw) ⟨fun F' s' σ' H' I m z => ?_, fun F' s' σ' H' v d I m r z => ?_, fun F' s' σ' H' I m z => z.elim, fun F' s' σ' H' I m z => z.elim, fun cls F' s' σ' H' I m z => ?_, fun F' s' σ' H' p vs ds I m fr e r z => z.elim⟩
    · exact h1 F' .non .none H' I.toGrd m .non z
    · exact h1 F' v d H' I.toGrd m r z
    · exact h2 cls F' H' I.toGrd m z
/-- a def that hands out a new list, nobody's so far -/
abbrev Fn := List Cel → (List D → Prop) → (Value → Prop) → Prop
def SpfN (K : PySem.W.Frag) (L : Lw) (w : Fn) : Sp := fun vs H Q E => ∃ (b : Beg) (F : Hp) (cs : List Cel) (q : List D → Prop) (r : Value → Prop), Grd K L b F H ∧ ArgsOk K b F vs cs ∧ w cs q r ∧
  (∀ F' p us ds H', Grd K L b F' H' → Same F F' → F' p = none → b.H0 p = none → b.dr ≠ some p → H' p = some (.lst us) → DtAll K F' us ds → q ds → Q (.ref p) H') ∧ ∀ cls F' H', Grd K L b F' H' → Same F F' → r cls → E cls none H'
theorem fn_flatN {P : Program} {w : World} {K : PySem.W.Frag} {mg : Str → Option Value} {base : Heap} {x qual : Str} {st : Stmt} {f : Addr} {fd : FuncData} {N ps : List Str} {k : Nat} {sp : Fn} (Fn : Fun K x qual st f fd) (S : FnScope N ps (defScope st)) (len : ∀ cs q r, sp cs q r → cs.length = ps.length)
    (hbody : ∀ (cdv : Value), fd.code = cdv → ∀ (A : Around) (outer : List Env) (s : Shared) (H : Hp) (E : XK), Room k (A.deeper (envOfC qual (defScope st) s.heap.objs.size f cdv)) →
      L2N.Takes (cxOf (L2N.CX P w) P w K mg base N qual (defScope st) f cdv A outer s H E) (fun cls d _ H => E cls d H) →
      PassesOwn (model P w) (cxOf (L2N.CX P w) P w K mg base N qual (defScope st) f cdv A outer s H E).A (cxOf (L2N.CX P w) P w K mg base N qual (defScope st) f cdv A outer s H E).env (cxOf (L2N.CX P w) P w K mg base N qual (defScope st) f cdv A outer s H E).xe →
      ∃ t ws, FSs (cxOf (L2N.CX P w) P w K mg base N qual (defScope st) f cdv A outer s H E) L (fun cls d _ H => E cls d H) (defBody st) t ws ∧ ∀ cs q r, sp cs q r → ws (startS N.length cs) { nx := fun _ => False, rt := fun _ => False, ex := r, rn := q }) :
    FnOk P w K mg base (L2N.CX P w) (k + 1) f fd ps (SpfN K L sp) := by
  refine okC Fn S (fun vs H Q E h => ?_) (fun cdv hcd A outer s H vs Q E hr h => ?_)
  · obtain ⟨b, F, cs, q, r, g, ha, hw, _⟩ := h
    rw [ha.len]
    exact len cs q r hw
  · obtain ⟨t, ws, hd, hq⟩ := hbody cdv hcd A outer s H E hr (L2N.takes_of rfl rfl rfl rfl) (passes_of rfl)
    refine ⟨t, hd.pe, ?_⟩
    obtain ⟨b, F, cs, q, r, g, ha, hw, h1, h2⟩ := h
    refine hd.snd b F _ _ H { nx := fun _ => False, rt := fun _ => False, ex := r, rn := q } _ (rel_start g ha) (hq cs q r hw) ⟨fun F' s' σ' H' I m z => z.elim, fun F' s' σ' H' v d I m r z => z.elim, fun F' s' σ' H' I m z => z.elim, fun F' s' σ' H' I m z => z.elim, fun cls F' s' σ' H' I m z => ?_, fun F' s' σ' H' p vs ds I m fr e r z => ?_⟩
    · exact h2 cls F' H' I.toGrd m z
    · exact h1 F' p vs ds H' I.toGrd m fr.hf fr.h0 fr.hd e r z
def wCallN (w : FL.Fn) (v : Wa) : Wl := fun s Q R => v s (fun cs => w cs Q R) R
theorem fn_call {x : Str} {k : Nat} {f : Addr} {fd : FuncData} {ps : List Str} {w : FL.Fn} (G : FnOk X.prog X.w X.K X.mg X.base (L2N.CX X.prog X.w) k f fd ps (SpfN X.K L w)) (hr : Room k X.A) (tk : L2N.Takes X W) (hg : Gl X x) (hm : X.mg x = some (.ref f)) (hk : PySem.W.keepIn X.K (.ref f) = true) (hb : Binds X.K fd ps [])
    (ha : FA X L W (e :: es) t v) (hdb : (x == ("__debug__" : Str)) = false := by decide) (he : starEach (e :: es) X.env = (false, eval e X.env) :: starEach es X.env := by rfl) (hpl : (backTo pos (starEach es X.env)).any (·.1) = false := by rfl) :
    FN X L W (.Call (.Name x p) (e :: es) [] pos) (tCallS (SpfN X.K L w) (fun σ cls d H => W cls d σ H) t) (wCallN w v) := by
  refine ⟨pe_callS G hr hg hm hk hb (E := fun σ cls d H => W cls d σ H) (fun σ => L2N.passAt tk σ) ha.pe hdb he hpl, fun b F s σ H Q R k I h hx kk => ?_⟩
  refine ha.snd b F s σ H _ R _ I h hx fun F1 cs vs H1 I1 m1 k1 r1 h1 => ⟨⟨H1, F1, b.dr⟩, F1, cs, Q, R, I1.toGrd.enter, r1.at, h1, fun F' p us ds H' g m hf h0 hd e r q => ?_, fun cls F' H' g m q => ?_⟩
  · have I2 := I1.back g
    exact kk F' ds p us H' I2 (m1.trans m) (k1.trans g.keep) ⟨I1.live p h0, hd, hf, fun i z => I1.ow_some h0 i z⟩ e r q
  · exact hx cls F' H' (I1.back g) (m1.trans m) q
end
end FL

/-! FL6: statements, loops. -/
namespace FL
open PySem PySem.Spec PyProof.Rows L2
section
variable {X : Cx} {L : Lw} {W : WX} {pos p : Pos} {a c e : Expr} {ta tb tc te : TE} {wa wb wc we : We} {tA tB' : TT} {vA vB : Wt} {wl : Wl} {st : Stmt} {sts sts2 : List Stmt} {t t' : TS} {w w' : Ws}
theorem EnOk.mono {K : PySem.W.Frag} {b : Beg} {F F' : Hp} {E : En} {D' : Ends} (x : EnOk K L W b F E D') (m : Same F F') : EnOk K L W b F' E D' :=
  ⟨fun F1 s' σ' H' I m1 z => x.nx F1 s' σ' H' I (m.trans m1) z, fun F1 s' σ' H' v d I m1 r z => x.rt F1 s' σ' H' v d I (m.trans m1) r z, fun F1 s' σ' H' I m1 z => x.bk F1 s' σ' H' I (m.trans m1) z,
    fun F1 s' σ' H' I m1 z => x.ct F1 s' σ' H' I (m.trans m1) z, fun cls F1 s' σ' H' I m1 z => x.ex cls F1 s' σ' H' I (m.trans m1) z, fun F1 s' σ' H' p vs ds I m1 fr e r z => x.rn F1 s' σ' H' p vs ds I (m.trans m1) fr e r z⟩
theorem EnOk.exw {K : PySem.W.Frag} {b : Beg} {F : Hp} {E : En} {D' : Ends} (x : EnOk K L W b F E D') {s : Sl} {σ : L2.St} : Exw K L W b F s σ E.ex := fun cls F' H' I m q => x.ex cls F' s σ H' I m q
/-! ### blocks -/
def wNext : Ws := fun s E => E.nx s
def wSeq (w w' : Ws) : Ws := fun s E => w s { E with nx := fun s' => w' s' E }
theorem fss_nil : FSs X L W [] tNext wNext := ⟨pss_nil, fun b F s σ H E D' I h ok => ok.nx F s σ H I (Same.refl F) h⟩
theorem fss_cons (h1 : FS X L W st t w) (h2 : FSs X L W sts t' w') : FSs X L W (st :: sts) (tSeq t t') (wSeq w w') := by
  refine ⟨pss_cons h1.pe h2.pe, fun b F s σ H E D' I h ok => ?_⟩
  exact h1.snd b F s σ H { E with nx := fun s' => w' s' E } { D' with nx := t' D' } I h
    ⟨fun F1 s' σ' H' I1 m1 z => h2.snd b F1 s' σ' H' E D' I1 z (ok.mono m1), ok.rt, ok.bk, ok.ct, ok.ex, ok.rn⟩
theorem fss_one (h1 : FS X L W st t w) : FSs X L W [st] t w := ⟨pss_one h1.pe, h1.snd⟩
theorem fs_pass : FS X L W (.Pass pos) tNext wNext := ⟨ps_pass, fun b F s σ H E D' I h ok => ok.nx F s σ H I (Same.refl F) h⟩
theorem fs_break : FS X L W (.Break pos) tBreak (fun s E => E.bk s) := ⟨ps_break, fun b F s σ H E D' I h ok => ok.bk F s σ H I (Same.refl F) h⟩
theorem fs_continue : FS X L W (.Continue pos) tCont (fun s E => E.ct s) := ⟨ps_continue, fun b F s σ H E D' I h ok => ok.ct F s σ H I (Same.refl F) h⟩
def wDrop (wa : We) : Ws := fun s E => wa s (fun _ => E.nx s) E.ex
theorem fs_expr (ha : FE X L W a ta wa) (hs : swapsWith a none pos.line X.env = pure false := by rfl) : FS X L W (.Expr a pos) (tDrop ta) (wDrop wa) :=
  ⟨ps_expr ha.pe hs, fun b F s σ H E D' I h ok => ha.snd b F s σ H _ E.ex _ I h ok.exw fun F1 d v H1 I1 m1 k1 r1 q => ok.nx F1 s σ H1 I1 m1 q⟩
def wRet (wa : We) : Ws := fun s E => wa s E.rt E.ex
theorem fs_ret (ha : FE X L W a ta wa) : FS X L W (.Return (some a) pos) (tRet ta) (wRet wa) :=
  ⟨ps_ret ha.pe, fun b F s σ H E D' I h ok => ha.snd b F s σ H _ E.ex _ I h ok.exw fun F1 d v H1 I1 m1 k1 r1 q => ok.rt F1 s σ H1 v d I1 m1 r1 q⟩
theorem fs_retN : FS X L W (.Return none pos) tRetN (fun s E => E.rt .none) := ⟨ps_retN, fun b F s σ H E D' I h ok => ok.rt F s σ H .non .none I (Same.refl F) .non h⟩
/-- a new list handed out as nobody's -/
def wRetO (wl : Wl) : Ws := fun s E => wl s E.rn E.ex
theorem fs_retO (ha : FN X L W a ta wl) : FS X L W (.Return (some a) pos) (tRet ta) (wRetO wl) :=
  ⟨ps_ret ha.pe, fun b F s σ H E D' I h ok => ha.snd b F s σ H _ E.ex _ I h ok.exw fun F1 ds p vs H1 I1 m1 k1 fr e1 r1 q => ok.rn F1 s σ H1 p vs ds I1 m1 fr e1 r1 q⟩
def wIfS (v : Wt) (w w' : Ws) : Ws := fun s E => v s (fun c => cond c (w s E) (w' s E)) E.ex
theorem fs_if (ht : FT X L W e tA vA) (ha : FSs X L W sts t w) (hb : FSs X L W sts2 t' w') : FS X L W (.If e sts sts2 pos) (tIfS tA t t') (wIfS vA w w') := by
  refine ⟨ps_if ht.pe ha.pe hb.pe, fun b F s σ H E D' I h ok => ?_⟩
  refine ht.snd b F s σ H _ E.ex _ I h ok.exw fun F1 z H1 I1 m1 k1 h1 => ?_
  cases z with
  | true => rw [if_pos rfl]; exact ha.snd b F1 s σ H1 E D' I1 h1 (ok.mono m1)
  | false => rw [if_neg Bool.false_ne_true]; exact hb.snd b F1 s σ H1 E D' I1 h1 (ok.mono m1)
/-- ahead of a statement: the list of slot i is no longer to grow -/
def Sl.fix (s : Sl) (i : Nat) : Sl := match s[i]? with
  | some (.ow ds) => s.set i (.fz (.list ds))
  | _ => s
theorem Rel.fix {K : PySem.W.Frag} {b : Beg} {F : Hp} {s : Sl} {σ : L2.St} {H : Hp} (I : Rel K L b F s σ H) (i : Nat) : ∃ F', Rel K L b F' (s.fix i) σ H ∧ Same F F' := by
  unfold Sl.fix
  split
  · rename_i ds e
    obtain ⟨p, vs, e1, h0, hd, hf, hh, hs⟩ := I.slot i _ e
    have hi : i < σ.length := by rw [I.len]; exact (List.getElem?_eq_some_iff.mp e).1
    have e2 : σ[i]? = some (some (.ref p)) := by
      rw [List.getD_eq_getElem?_getD, List.getElem?_eq_getElem hi] at e1
      rw [List.getElem?_eq_getElem hi]
      exact congrArg some e1
    -- forget it, tell it, put it back
    have I1 : Rel K L b F (s.set i .no) (σ.set i (some (.ref p))) H := I.drop1
    have I2 : Rel K L b (upd F p (.lst vs)) (s.set i .no) (σ.set i (some (.ref p))) H := I1.tell h0 hd hh hf (fun ps z => by cases z) fun j z q => by
      have nj : j ≠ i := fun y => by
        subst y; rw [List.getElem?_set] at z
        split at z
        · split at z <;> exact z
        · rename_i y; exact absurd rfl y
      rw [List.getElem?_set_ne (Ne.symm nj)] at z q
      exact I.apart i j p (Ne.symm nj) (by rw [e]; trivial) z e2 q
    have I3 := I2.put (i := i) (v := .ref p) (d := .list ds) (.lst (.inl (.inl upd_same)) (dps_mono (same_upd hf) hs))
    rw [List.set_set, List.set_set] at I3
    have e3 : σ.set i (some (.ref p)) = σ := by
      apply List.ext_getElem?
      intro j
      by_cases q : j = i
      · subst q; rw [List.getElem?_set, if_pos rfl, if_pos hi, e2]
      · rw [List.getElem?_set_ne (Ne.symm q)]
    rw [e3] at I3
    exact ⟨_, I3, same_upd hf⟩
  · exact ⟨F, I, Same.refl F⟩
theorem fs_fix (i : Nat) (h : FS X L W st t w) : FS X L W st t (fun s E => w (s.fix i) E) := by
  refine ⟨h.pe, fun b F s σ H E D' I q ok => ?_⟩
  obtain ⟨F', I', m⟩ := I.fix i
  exact h.snd b F' _ σ H E D' I' q (ok.mono m)
/-! ### stores -/
def wgName (i : Nat) : Wg := fun d s Q => Q (s.set i (.fz d))
theorem snd_gname {K : PySem.W.Frag} (i : Nat) : SndG K L (gName i) (wgName i) := fun b F s σ H v d Q k I r h kk => kk F _ _ H (I.put r) (Same.refl F) h
theorem fg_name {i : Nat} {x : Str} (hN : X.N.Nodup) (hi : X.N[i]? = some x := by rfl) (hx : Loc X.env.scope x := by first | exact Or.inl rfl | exact Or.inr rfl) (hf : X.fn x = true ∨ X.env.scope.names.lookup x = some .local := by first | exact .inl rfl | exact .inr rfl | assumption) : FG X L (.Name x pos) (gName i) (wgName i) :=
  ⟨pg_name hN hi hx hf, snd_gname i⟩
def wgNil : List D → Sl → (Sl → Prop) → Prop := fun ds s Q => ds = [] ∧ Q s
def wgCons (g : Wg) (gs : List D → Sl → (Sl → Prop) → Prop) : List D → Sl → (Sl → Prop) → Prop := fun ds s Q => match ds with
  | d :: ds => g d s (fun s' => gs ds s' Q)
  | [] => False
variable {tg : Expr} {tgs : List Expr} {g : TG} {gs : TGs} {wg : Wg} {wgs : List D → Sl → (Sl → Prop) → Prop}
theorem fgs_nil : FGs X L [] gNil wgNil := ⟨pgs_nil, fun b F s σ H vs ds Q k I r h kk => by
  obtain ⟨rfl, h⟩ := h
  cases r
  exact ⟨rfl, kk F s σ H I (Same.refl F) h⟩⟩
theorem fgs_cons (h1 : FG X L tg g wg) (h2 : FGs X L tgs gs wgs) (he : (assignEach (tg :: tgs) X.env).map (·.2) = assign tg X.env :: (assignEach tgs X.env).map (·.2) := by rfl) : FGs X L (tg :: tgs) (gCons g gs) (wgCons wg wgs) := by
  refine ⟨pgs_cons h1.pe h2.pe he, fun b F s σ H vs ds Q k I r h kk => ?_⟩
  cases r with
  | nil => exact h.elim
  | cons r1 r2 => exact ⟨_, _, rfl, h1.snd b F s σ H _ _ _ _ I r1 h fun F1 s1 σ1 H1 I1 m1 q => h2.snd b F1 s1 σ1 H1 _ _ _ _ I1 (dps_mono m1 r2) q fun F2 s2 σ2 H2 I2 m2 q2 => kk F2 s2 σ2 H2 I2 (m1.trans m2) q2⟩
def wgTup (n : Nat) (wgs : List D → Sl → (Sl → Prop) → Prop) : Wg := fun d s Q => match d with
  | .tuple ds => ds.length = n ∧ wgs ds s Q
  | _ => False
theorem fg_tup {k n : Nat} (hc : X.calm = true) (h : FGs X L tgs gs wgs) (hn : (assignEach tgs X.env).length = n := by rfl) (hst : (assignEach tgs X.env).findIdx? (·.1) = none := by rfl) : FG X L (.Tuple tgs k pos) (gTup X.K n gs) (wgTup n wgs) := by
  refine ⟨pg_tup hc h.pe hn hst, fun b F s σ H v d Q k I r q kk => ?_⟩
  unfold wgTup at q
  split at q
  · cases r with
    | tup h1 h2 => exact ⟨_, _, rfl, same_sqT I.sub h1, by rw [dps_len h2]; exact q.1, h.snd b F s σ H _ _ _ _ I h2 q.2 kk⟩
  · exact q.elim
def wAsg (wa : We) (g : Wg) : Ws := fun s E => wa s (fun d => g d s E.nx) E.ex
theorem fs_asg (ha : FE X L W a ta wa) (hg : FG X L tg g wg) (hs : swapsWithSole [tg] a pos.line X.env = pure false := by rfl) (hw : swappedStores [tg] a X.env = pure none := by rfl) (h1 : (assignEach [tg] X.env).map (·.2) = [assign tg X.env] := by rfl) : FS X L W (.Assign [tg] a pos) (tAsg ta g) (wAsg wa wg) := by
  refine ⟨ps_asg ha.pe hg.pe hs hw h1, fun b F s σ H E D' I h ok => ?_⟩
  refine ha.snd b F s σ H _ E.ex _ I h ok.exw fun F1 d v H1 I1 m1 k1 r1 q => ?_
  exact hg.snd b F1 s σ H1 v d _ _ I1 r1 q fun F2 s2 σ2 H2 I2 m2 z => ok.nx F2 s2 σ2 H2 I2 (m1.trans m2) z
theorem fs_set {i : Nat} {x : Str} (hN : X.N.Nodup) (ha : FE X L W a ta wa) (hi : X.N[i]? = some x := by rfl) (hx : Loc X.env.scope x := by first | exact Or.inl rfl | exact Or.inr rfl) (hs : swapsWith a (some (.Name x p)) pos.line X.env = pure false := by rfl) (hf : X.fn x = true ∨ X.env.scope.names.lookup x = some .local := by first | exact .inl rfl | exact .inr rfl | assumption) :
    FS X L W (.Assign [.Name x p] a pos) (tAsg ta (gName i)) (wAsg wa (wgName i)) := by
  refine ⟨ps_set hN hi hx ha.pe hs hf, fun b F s σ H E D' I h ok => ?_⟩
  exact ha.snd b F s σ H _ E.ex _ I h ok.exw fun F1 d v H1 I1 m1 k1 r1 q => ok.nx F1 _ _ H1 (I1.put r1) m1 q
/-- a list of the def's own -/
def wSetO (i : Nat) (wl : Wl) : Ws := fun s E => wl s (fun ds => E.nx (s.set i (.ow ds))) E.ex
theorem fs_own {i : Nat} {x : Str} (hN : X.N.Nodup) (ha : FN X L W a ta wl) (hi : X.N[i]? = some x := by rfl) (hx : Loc X.env.scope x := by first | exact Or.inl rfl | exact Or.inr rfl) (hs : swapsWith a (some (.Name x p)) pos.line X.env = pure false := by rfl) (hf : X.fn x = true ∨ X.env.scope.names.lookup x = some .local := by first | exact .inl rfl | exact .inr rfl | assumption) :
    FS X L W (.Assign [.Name x p] a pos) (tAsg ta (gName i)) (wSetO i wl) := by
  refine ⟨ps_set hN hi hx ha.pe hs hf, fun b F s σ H E D' I h ok => ?_⟩
  exact ha.snd b F s σ H _ E.ex _ I h ok.exw fun F1 ds q vs H1 I1 m1 k1 fr e1 r1 z => ok.nx F1 _ _ H1 (I1.putO fr.h0 fr.hd fr.hf fr.hn e1 r1) m1 z
def wPar (i j : Nat) (wl : Wl) : Ws := fun s E => wl s (fun ds => match ds with
  | [d, e] => E.nx ((s.set i (.fz d)).set j (.fz e))
  | _ => False) E.ex
theorem fs_par {i j : Nat} {x y : Str} {px py pt pt2 : Pos} {kt k2 : Nat} {t : TA} (hc : X.calm = true) (hN : X.N.Nodup) (ha : FLs X L W [a, c] t wl) (hi : X.N[i]? = some x := by rfl) (hj : X.N[j]? = some y := by rfl) (hij : i ≠ j := by decide)
    (hx : X.env.scope.names.lookup x = some .local := by rfl) (hy : X.env.scope.names.lookup y = some .local := by rfl)
    (hw : swappedStores [.Tuple [.Name x px, .Name y py] kt pt] (.Tuple [a, c] k2 pt2) X.env = pure (some [x, y]) := by rfl)
    (hs : swapsWithSole [.Tuple [.Name x px, .Name y py] kt pt] (.Tuple [a, c] k2 pt2) pos.line X.env = pure false := by rfl) :
    FS X L W (.Assign [.Tuple [.Name x px, .Name y py] kt pt] (.Tuple [a, c] k2 pt2) pos) (tPar i j t) (wPar i j wl) := by
  refine ⟨ps_par hc hN hi hj hij hx hy ha.pe hw hs, fun b F s σ H E D' I h ok => ?_⟩
  refine ha.snd b F s σ H _ E.ex _ I h ok.exw fun F1 ds vs H1 I1 m1 k1 r1 q => ?_
  split at q
  · cases r1 with
    | cons h1 h2 =>
      cases h2 with
      | cons h2 h3 =>
        cases h3
        exact ⟨_, _, rfl, ok.nx F1 _ _ H1 ((I1.put h1).put h2) m1 q⟩
  · exact q.elim
def wPar3 (i j l : Nat) (wl : Wl) : Ws := fun s E => wl s (fun ds => match ds with
  | [d, e, f] => E.nx (((s.set i (.fz d)).set j (.fz e)).set l (.fz f))
  | _ => False) E.ex
theorem fs_par3 {i j l : Nat} {x y z : Str} {px py pz pt pt2 : Pos} {kt k2 : Nat} {t : TA} (hc : X.calm = true) (hN : X.N.Nodup) (ha : FLs X L W [a, c, e] t wl) (hi : X.N[i]? = some x := by rfl) (hj : X.N[j]? = some y := by rfl) (hl : X.N[l]? = some z := by rfl) (hij : i ≠ j := by decide) (hil : i ≠ l := by decide) (hjl : j ≠ l := by decide)
    (hx : X.env.scope.names.lookup x = some .local := by rfl) (hy : X.env.scope.names.lookup y = some .local := by rfl) (hz : X.env.scope.names.lookup z = some .local := by rfl)
    (hw : swappedStores [.Tuple [.Name x px, .Name y py, .Name z pz] kt pt] (.Tuple [a, c, e] k2 pt2) X.env = pure (some [x, y, z]) := by rfl)
    (hs : swapsWithSole [.Tuple [.Name x px, .Name y py, .Name z pz] kt pt] (.Tuple [a, c, e] k2 pt2) pos.line X.env = pure false := by rfl) :
    FS X L W (.Assign [.Tuple [.Name x px, .Name y py, .Name z pz] kt pt] (.Tuple [a, c, e] k2 pt2) pos) (tPar3 i j l t) (wPar3 i j l wl) := by
  refine ⟨ps_par3 hc hN hi hj hl hij hil hjl hx hy hz ha.pe hw hs, fun b F s σ H E D' I h ok => ?_⟩
  refine ha.snd b F s σ H _ E.ex _ I h ok.exw fun F1 ds vs H1 I1 m1 k1 r1 q => ?_
  split at q
  · cases r1 with
    | cons h1 h2 =>
      cases h2 with
      | cons h2 h3 =>
        cases h3 with
        | cons h3 h4 =>
          cases h4
          exact ⟨_, _, _, rfl, ok.nx F1 _ _ H1 (((I1.put h1).put h2).put h3) m1 q⟩
  · exact q.elim
/-- x op= e, ints -/
def wAug (i : Nat) (C : Int → Int → Prop) (f : Int → Int → Int) (wa : We) : Ws := fun s E => match s[i]? with
  | some (.fz (.int n)) => wa s (fun d => match d with
    | .int m => C n m ∧ E.nx (s.set i (.fz (.int (f n m))))
    | _ => False) E.ex
  | _ => False
theorem fs_aug {i : Nat} {x : Str} {op : Operator} {C : Int → Int → Prop} {f : Int → Int → Int} (ho : OpR X (inplaceOp op) (rI C fun i j => .int (f i j))) (hN : X.N.Nodup) (ha : FE X L W a ta wa) (hi : X.N[i]? = some x := by rfl) (hx : Loc X.env.scope x := by first | exact Or.inl rfl | exact Or.inr rfl)
    (hf : X.fn x = true ∨ X.env.scope.names.lookup x = some .local := by first | exact .inl rfl | exact .inr rfl | assumption) : FS X L W (.AugAssign (.Name x p) op a pos) (tAug i ta (rI C fun i j => .int (f i j))) (wAug i C f wa) := by
  refine ⟨ps_aug hN hi hx ha.pe ho hf, fun b F s σ H E D' I h ok => ?_⟩
  unfold wAug at h
  split at h
  · rename_i n e
    obtain ⟨v, e1, r⟩ := I.slot i _ e
    cases r
    have e2 : σ[i]? = some (some (.int n)) := by
      rw [List.getD_eq_getElem?_getD] at e1
      cases q : σ[i]? with
      | none => rw [q] at e1; cases e1
      | some u => rw [q] at e1; exact congrArg some e1
    refine ⟨_, e2, ha.snd b F s σ H _ E.ex _ I h ok.exw fun F1 d v H1 I1 m1 k1 r1 q => ?_⟩
    split at q
    · cases r1
      exact ⟨_, _, rfl, rfl, q.1, ok.nx F1 _ _ H1 (I1.put (.int _)) m1 q.2⟩
    · exact q.elim
  · exact h.elim
theorem aug_add : OpR X (inplaceOp .Add) (rI (fun _ _ => True) fun i j => .int (i + j)) := opI fun _ _ _ _ _ _ _ _ q => iadd_int q
theorem aug_sub : OpR X (inplaceOp .Sub) (rI (fun _ _ => True) fun i j => .int (i - j)) := opI fun _ _ _ _ _ _ _ _ q => isub_int q
theorem aug_mul : OpR X (inplaceOp .Mult) (rI MulOk fun i j => .int (i * j)) := opI fun _ _ _ _ _ _ _ hc q => imul_int q hc
/-! ### loops -/
/-- a for over ds: what holds ahead of each turn is yours -/
def wForL (g : Wg) (w : Ws) (ds : List D) : Ws := fun s E => ∃ I : Nat → Sl → Prop, I 0 s ∧ (∀ i d s', ds[i]? = some d → I i s' → g d s' (fun s1 => w s1 { E with nx := I (i + 1), ct := I (i + 1), bk := E.nx })) ∧ ∀ s', I ds.length s' → E.nx s'
def wFor (wi : Wl) (g : Wg) (w : Ws) : Ws := fun s E => wi s (fun ds => wForL g w ds s E) E.ex
/-- .. turn by turn -/
def wForR (g : Wg) (w : Ws) : List D → Ws
  | [], s, E => E.nx s
  | d :: ds, s, E => g d s (fun s1 => w s1 { E with nx := fun s2 => wForR g w ds s2 E, ct := fun s2 => wForR g w ds s2 E, bk := E.nx })
theorem for_turns {g : Wg} {w : Ws} {ds : List D} {s : Sl} {E : En} (h : wForR g w ds s E) : wForL g w ds s E := by
  refine ⟨fun i s' => wForR g w (ds.drop i) s' E, by dsimp only; rw [List.drop_zero]; exact h, fun i d s' e q => ?_, fun s' q => by dsimp only at q; rw [List.drop_length] at q; exact q⟩
  have hlt : i < ds.length := (List.getElem?_eq_some_iff.mp e).1
  have e2 : ds.drop i = d :: ds.drop (i + 1) := by
    rw [List.getElem?_eq_getElem hlt] at e
    rw [← Option.some.inj e]
    exact List.drop_eq_getElem_cons hlt
  dsimp only at q
  rw [e2] at q
  exact q
variable {ti : TI} {wi : Wl}
theorem fs_for (po : PassesOwn (model X.prog X.w) X.A X.env X.xe) (hc : X.calm = true) (hi : FI X L W tg e ti wi) (hg : FG X L tg g wg) (hb : FSs X L W sts t w) (hs : ∀ x, foldedSetIterable e X.env x = pure x := by intro _; rfl) :
    FS X L W (.For tg e sts [] pos) (tFor ti g t) (wFor wi wg w) := by
  refine ⟨ps_for po hc hi.pe hg.pe hb.pe hs, fun b F s σ H E D' I h ok => ?_⟩
  refine hi.snd b F s σ H _ E.ex _ I h ok.exw fun F0 ds J H0 I0 m0 k0 wk hq => ?_
  obtain ⟨Iv, iv0, ivs, ive⟩ := hq
  refine ⟨fun i m σ H => m = ds.length - i ∧ i ≤ ds.length ∧ ∃ F1 s1, Rel X.K L b F1 s1 σ H ∧ Same F0 F1 ∧ Iv i s1, ⟨ds.length, by omega, by omega, F0, s, I0, Same.refl F0, iv0⟩, ?_⟩
  rintro i m σ1 H1 ⟨rfl, hi', F1, s1, I1, m1, q⟩
  obtain ⟨hgo, hstop, hy⟩ := wk b F1 s1 σ1 H1 I1 m1 trivial
  by_cases hlt : i < ds.length
  · refine .inr ⟨hgo i hlt, fun σ' H' => ∃ F2 s2, Rel X.K L b F2 s2 σ' H' ∧ Same F0 F2 ∧ Iv (i + 1) s2, fun σ' H' z => ⟨ds.length - (i + 1), by omega, rfl, by omega, z⟩, fun x H' y => ?_⟩
    obtain ⟨F2, d, e1, I2, m2, k2, r2⟩ := hy i x H' hlt y
    refine hg.snd b F2 s1 σ1 H' x d _ _ I2 r2 (ivs i d s1 e1 q) fun F3 s3 σ3 H3 I3 m3 q3 => ?_
    have mm := m0.trans (m1.trans (m2.trans m3))
    refine hb.snd b F3 s3 σ3 H3 _ _ I3 q3 ⟨fun F4 s4 σ4 H4 I4 m4 z => ⟨F4, s4, I4, m1.trans (m2.trans (m3.trans m4)), z⟩, fun F4 s4 σ4 H4 v d I4 m4 r z => ok.rt F4 s4 σ4 H4 v d I4 (mm.trans m4) r z,
      fun F4 s4 σ4 H4 I4 m4 z => ok.nx F4 s4 σ4 H4 I4 (mm.trans m4) z, fun F4 s4 σ4 H4 I4 m4 z => ⟨F4, s4, I4, m1.trans (m2.trans (m3.trans m4)), z⟩,
      fun cls F4 s4 σ4 H4 I4 m4 z => ok.ex cls F4 s4 σ4 H4 I4 (mm.trans m4) z, fun F4 s4 σ4 H4 p vs ds I4 m4 fr e r z => ok.rn F4 s4 σ4 H4 p vs ds I4 (mm.trans m4) fr e r z⟩
  · have e : i = ds.length := by omega
    subst e
    exact .inl ⟨hstop, ok.nx F1 s1 σ1 H1 I1 (m0.trans m1) (ive s1 q)⟩
/-- a while: what holds ahead of each turn, by a number that falls -/
def wWhile (v : Wt) (w : Ws) : Ws := fun s E => ∃ I : Nat → Sl → Prop, (∃ m, I m s) ∧ ∀ m s', I m s' → v s' (fun c => cond c (w s' { E with nx := fun s2 => ∃ m', m' < m ∧ I m' s2, ct := fun s2 => ∃ m', m' < m ∧ I m' s2, bk := E.nx }) (E.nx s')) E.ex
theorem fs_while (po : PassesOwn (model X.prog X.w) X.A X.env X.xe) (ht : FT X L W e tA vA) (hb : FSs X L W sts t w) : FS X L W (.While e sts [] pos) (tWhile tA t) (wWhile vA w) := by
  refine ⟨ps_while po ht.pe hb.pe, fun b F s σ H E D' I h ok => ?_⟩
  obtain ⟨Iv, ⟨n0, h⟩, hst⟩ := h
  refine ⟨fun m σ H => ∃ F1 s1, Rel X.K L b F1 s1 σ H ∧ Same F F1 ∧ Iv m s1, ⟨n0, F, s, I, Same.refl F, h⟩, ?_⟩
  rintro m σ1 H1 ⟨F1, s1, I1, m1, q⟩
  refine ht.snd b F1 s1 σ1 H1 _ E.ex _ I1 (hst m s1 q) (ok.mono m1).exw fun F2 z H2 I2 m2 k2 q2 => ?_
  cases z with
  | false => rw [if_neg Bool.false_ne_true]; exact ok.nx F2 s1 σ1 H2 I2 (m1.trans m2) q2
  | true =>
    rw [if_pos rfl]
    refine ⟨fun σ' H' => ∃ m', m' < m ∧ ∃ F3 s3, Rel X.K L b F3 s3 σ' H' ∧ Same F F3 ∧ Iv m' s3, fun σ' H' z => z, ?_⟩
    exact hb.snd b F2 s1 σ1 H2 _ _ I2 q2 ⟨fun F4 s4 σ4 H4 I4 m4 ⟨m', hm, z⟩ => ⟨m', hm, F4, s4, I4, m1.trans (m2.trans m4), z⟩, fun F4 s4 σ4 H4 v d I4 m4 r z => ok.rt F4 s4 σ4 H4 v d I4 (m1.trans (m2.trans m4)) r z,
      fun F4 s4 σ4 H4 I4 m4 z => ok.nx F4 s4 σ4 H4 I4 (m1.trans (m2.trans m4)) z, fun F4 s4 σ4 H4 I4 m4 ⟨m', hm, z⟩ => ⟨m', hm, F4, s4, I4, m1.trans (m2.trans m4), z⟩, fun cls F4 s4 σ4 H4 I4 m4 z => ok.ex cls F4 s4 σ4 H4 I4 (m1.trans (m2.trans m4)) z,
      fun F4 s4 σ4 H4 p vs ds I4 m4 fr e r z => ok.rn F4 s4 σ4 H4 p vs ds I4 (m1.trans (m2.trans m4)) fr e r z⟩
end
end FL

/-! FL7: what is walked; built-in calls. -/
namespace FL
open PySem PySem.Spec PyProof.Rows L2
section
variable {X : Cx} {L : Lw} {W : WX} {pos p : Pos} {tg a c e : Expr} {ta tb tc te : TE} {wa wb wc we : We} {wl : Wl} {t : TA}
/-! ### what is walked -/
def sgn (n : Nat) : D := .str ⟨#[n]⟩
def seqD : D → (List D → Prop) → Prop
  | .list ds, Q => Q ds
  | .tuple ds, Q => Q ds
  | .str z, Q => Q (z.cps.toList.map sgn)
  | _, _ => False
abbrev iSeq (K : PySem.W.Frag) (te : TE) : TI := fun σ H R => te σ H fun x H1 => (∃ a, x = .ref a ∧ (∃ xs, SqL K H1 a xs) ∧ R (Itl K a) H1) ∨ (∃ a, x = .ref a ∧ (∃ xs, SqT K H1 a xs) ∧ R (Itt K a) H1) ∨ ∃ z, x = .str z ∧ R (Its z) H1
theorem pi_seq (he : PE X e te) : PI X tg e (iSeq X.K te) := by
  refine ⟨fun pins s σ H R I h => ?_⟩
  refine thn (he.run pins s σ H _ I h) fun v s1 h1 => ?_
  obtain ⟨x, H1, I1, r1, q⟩ := h1
  rcases q with ⟨p, rfl, ⟨xs, hq⟩, q⟩ | ⟨p, rfl, ⟨xs, hq⟩, q⟩ | ⟨x, rfl, q⟩
  · cases r1
    obtain ⟨its, rv, pl, hz⟩ := I1.list hq
    exact wpAny_pyIter_list pl.isList (pi_one (tk := s1.toks) I1 _ (turn_list p _) ⟨_, Heap.get?_push_size _ rfl, rfl, rfl⟩ q)
  · cases r1
    obtain ⟨its, rv, pl, hz⟩ := I1.tuple hq
    exact wpAny_pyIter_tuple (show s1.heap.IsTuple p its.toArray from pl) (pi_one (tk := s1.toks) I1 _ (turn_tuple p _) ⟨_, Heap.get?_push_size _ rfl, rfl, rfl⟩ q)
  · obtain ⟨t, rfl⟩ := r1
    cases ha : x.cps.all (· < 128)
    · exact wpAny_pyIter_wide ha (pi_one (tk := s1.toks) I1 _ (turn_str _ x t "str_iterator" (.inr rfl)) ⟨_, Heap.get?_push_size _ rfl, rfl, rfl⟩ q)
    · exact wpAny_pyIter_ascii ha (pi_one (tk := s1.toks) I1 _ (turn_str _ x t "str_ascii_iterator" (.inl rfl)) ⟨_, Heap.get?_push_size _ rfl, rfl, rfl⟩ q)
def wSeqI (wa : We) : Wl := fun s Q R => wa s (fun d => seqD d Q) R
section
variable {K : PySem.W.Frag} {b : Beg} {F H : Hp}
theorem wkd_same {J : It} {ds : List D} {n : Nat} {G : Hp → Prop} {Y : Nat → V → Prop} (hw : Walk J n G (fun i H x H' => H' = H ∧ Y i x)) (hn : n = ds.length) {P : Sl → L2.St → Prop} (hG : ∀ (b1 : Beg) F1 s1 σ1 H1, Rel K L b1 F1 s1 σ1 H1 → Same F F1 → P s1 σ1 → G H1)
    (hY : ∀ F1, Same F F1 → ∀ i x, i < n → Y i x → ∃ d, ds[i]? = some d ∧ Dt K F1 x d) : WalkD K L b F P J ds := by
  subst hn
  intro b1 F1 s1 σ1 H1 I1 m1 hp
  have g := hG b1 F1 s1 σ1 H1 I1 m1 hp
  refine ⟨fun i hi => hw.goes i H1 hi g, hw.stops H1 g, fun i x H' hi y => ?_⟩
  obtain ⟨e, y⟩ := hw.yields i H1 x H' hi g y
  obtain ⟨d, e1, r⟩ := hY F1 m1 i x hi y
  subst e
  exact ⟨F1, d, e1, I1, Same.refl F1, Kp.refl, r⟩
theorem wkd_list {a : Addr} {xs : List V} {ds : List D} (h : SqL K F a xs) (r : DtAll K F xs ds) : WalkD K L b F (fun _ _ => True) (Itl K a) ds :=
  wkd_same (walk_list (K := K) (a := a) (xs := xs)) (dps_len r) (fun _ F1 s1 σ1 H1 I1 m1 _ => I1.sub.seq (m1.seq h)) fun F1 m1 i x hi y => dps_getv (dps_mono m1 r) y
theorem wkd_tup {a : Addr} {xs : List V} {ds : List D} (h : SqT K F a xs) (r : DtAll K F xs ds) : WalkD K L b F (fun _ _ => True) (Itt K a) ds :=
  wkd_same (walk_tup (K := K) (a := a) (xs := xs)) (dps_len r) (fun _ F1 s1 σ1 H1 I1 m1 _ => same_sqT I1.sub (same_sqT m1 h)) fun F1 m1 i x hi y => dps_getv (dps_mono m1 r) y
theorem wkd_str {z : Str} : WalkD K L b F (fun _ _ => True) (Its z) (z.cps.toList.map sgn) :=
  wkd_same (walk_str (z := z)) (by simp) (fun _ _ _ _ _ _ _ _ => trivial) fun F1 m1 i x hi y => by
    obtain ⟨c, e, rfl⟩ := y
    exact ⟨sgn c, by rw [List.getElem?_map, Array.getElem?_toList, e]; rfl, .str _⟩
end
theorem fi_seq (he : FE X L W e te we) : FI X L W tg e (iSeq X.K te) (wSeqI we) := by
  refine ⟨pi_seq he.pe, fun b F s σ H Q R k I h hx kk => ?_⟩
  refine he.snd b F s σ H _ R _ I h hx fun F1 d v H1 I1 m1 k1 r1 q => ?_
  cases r1 with
  | lst h1 h2 => exact .inl ⟨_, rfl, ⟨_, I1.sub.seq h1⟩, kk F1 _ _ H1 I1 m1 k1 (wkd_list h1 h2) q⟩
  | tup h1 h2 => exact .inr (.inl ⟨_, rfl, ⟨_, same_sqT I1.sub h1⟩, kk F1 _ _ H1 I1 m1 k1 (wkd_tup h1 h2) q⟩)
  | str z => exact .inr (.inr ⟨_, rfl, kk F1 _ _ H1 I1 m1 k1 wkd_str q⟩)
  | _ => exact q.elim
/-- range -/
def rngD (lo : Int) (n : Nat) : List D := (List.range n).map fun i => .int (lo + (i : Nat))
def rngC (lo c : Int) (n : Nat) : List D := (List.range n).map fun i => .int (lo + (i : Nat) * c)
def RgI (i : Int) : Prop := -(2 ^ 62) ≤ i ∧ i < 2 ^ 62
def wRng1 (wl : Wl) : Wl := fun s Q R => wl s (fun ds => match ds with
  | [.int n] => RgI n ∧ Q (rngD 0 n.toNat)
  | _ => False) R
def wRng2 (wl : Wl) : Wl := fun s Q R => wl s (fun ds => match ds with
  | [.int m, .int n] => RgI m ∧ RgI n ∧ Q (rngD m (n - m).toNat)
  | _ => False) R
def wRng3 (wl : Wl) : Wl := fun s Q R => wl s (fun ds => match ds with
  | [.int m, .int n, .int c] => ∃ k, RgC m n c k ∧ Q (rngC m c k)
  | _ => False) R
theorem rng_at {lo : Int} {n : Nat} {K : PySem.W.Frag} {F : Hp} {i : Nat} {x : V} (hi : i < n) (e : x = .int (lo + i)) : ∃ d, (rngD lo n)[i]? = some d ∧ Dt K F x d := by
  subst e
  exact ⟨.int (lo + i), by simp [rngD, hi], .int _⟩
theorem wkd_rng {K : PySem.W.Frag} {b : Beg} {F : Hp} {lo : Int} {n : Nat} : WalkD K L b F (fun _ _ => True) (Itr lo n) (rngD lo n) :=
  wkd_same (walk_range (lo := lo) (n := n)) (by simp [rngD]) (fun _ _ _ _ _ _ _ _ => trivial) fun F1 m1 i x hi y => rng_at hi y
theorem wkd_rngC {K : PySem.W.Frag} {b : Beg} {F : Hp} {lo c : Int} {n : Nat} : WalkD K L b F (fun _ _ => True) (Itc lo c n) (rngC lo c n) :=
  wkd_same (walk_rangeC (lo := lo) (c := c) (n := n)) (by simp [rngC]) (fun _ _ _ _ _ _ _ _ => trivial) fun F1 m1 i x hi y => by
    have y' : x = .int (lo + (i : Nat) * c) := y
    subst y'
    exact ⟨.int (lo + (i : Nat) * c), by simp [rngC, hi], .int _⟩
theorem fi_rng1 (hm : X.mg "range" = none) (ha : FLs X L W [a] t wl) (hg : Gl X "range" := by rfl) (hs : starEach [a] X.env = [(false, eval a X.env)] := by rfl) : FI X L W tg (.Call (.Name "range" p) [a] [] pos) (iRng1 t) (wRng1 wl) := by
  refine ⟨pi_range1 hg hm ha.pe hs, fun b F s σ H Q R k I h hx kk => ?_⟩
  refine ha.snd b F s σ H _ R _ I h hx fun F1 ds vs H1 I1 m1 k1 r1 q => ?_
  split at q
  · cases r1 with
    | cons h1 h2 =>
      cases h1
      cases h2
      exact ⟨_, rfl, q.1.1, q.1.2, kk F1 _ _ H1 I1 m1 k1 wkd_rng q.2⟩
  · exact q.elim
theorem fi_rng2 (hm : X.mg "range" = none) (ha : FLs X L W [a, c] t wl) (hg : Gl X "range" := by rfl) (hs : starEach [a, c] X.env = [(false, eval a X.env), (false, eval c X.env)] := by rfl) (hs2 : starEach [c] X.env = [(false, eval c X.env)] := by rfl) : FI X L W tg (.Call (.Name "range" p) [a, c] [] pos) (iRng2 t) (wRng2 wl) := by
  refine ⟨pi_range2 hg hm ha.pe hs hs2, fun b F s σ H Q R k I h hx kk => ?_⟩
  refine ha.snd b F s σ H _ R _ I h hx fun F1 ds vs H1 I1 m1 k1 r1 q => ?_
  split at q
  · cases r1 with
    | cons h1 h2 =>
      cases h1
      cases h2 with
      | cons h2 h3 =>
        cases h2
        cases h3
        exact ⟨_, _, rfl, ⟨q.1.1, q.1.2, q.2.1.1, q.2.1.2⟩, kk F1 _ _ H1 I1 m1 k1 wkd_rng q.2.2⟩
  · exact q.elim
/-! ### built-in functions by data -/
structure CalD (X : Cx) (L : Lw) (f : Value) (r : List V → Hp → VK → Prop) (w : List D → (D → Prop) → Prop) : Prop where
  opr : CallR X f r
  snd : ∀ (b : Beg) (F : Hp) (s : Sl) (σ : L2.St) (H : Hp) (vs : List V) (ds : List D) (Q : D → Prop) (k : VK), Rel X.K L b F s σ H → DtAll X.K F vs ds → w ds Q →
    (∀ F' c v H', Rel X.K L b F' s σ H' → Same F F' → Kp b H H' → Dt X.K F' v c → Q c → k v H') → r vs H k
def wCal (w : List D → (D → Prop) → Prop) (wl : Wl) : We := fun s Q R => wl s (fun ds => w ds Q) R
variable {x : Str} {id T : String} {es : List Expr} {r : List V → Hp → VK → Prop} {w : List D → (D → Prop) → Prop}
theorem fe_bi (o : CalD X L (.builtin id) r w) (hm : X.mg x = none) (hv : bootBuiltins x = some (.builtin id)) (ha : FLs X L W (e :: es) t wl) (hg : Gl X x := by rfl) (hn : x ≠ "__name__" := by decide) (hdb : (x == ("__debug__" : Str)) = false := by decide)
    (he : starEach (e :: es) X.env = (false, eval e X.env) :: starEach es X.env := by rfl) (hpl : (backTo pos (starEach es X.env)).any (·.1) = false := by rfl) : FE X L W (.Call (.Name x p) (e :: es) [] pos) (tCB r t) (wCal w wl) := by
  refine ⟨pe_callB o.opr hg hm hv ha.pe hn hdb he hpl, fun b F s σ H Q R k I h hx kk => ?_⟩
  refine ha.snd b F s σ H _ R _ I h hx fun F1 ds vs H1 I1 m1 k1 r1 q => ?_
  exact o.snd b F1 s σ H1 vs ds Q k I1 r1 q fun F2 c v H2 I2 m2 k2 r2 z => kk F2 c v H2 I2 (m1.trans m2) (k1.trans k2) r2 z
theorem fe_ty (o : CalD X L (.type T) r w) (hm : X.mg x = none) (hv : bootBuiltins x = some (.type T)) (ha : FLs X L W (e :: es) t wl) (hg : Gl X x := by rfl) (hn : x ≠ "__name__" := by decide) (hdb : (x == ("__debug__" : Str)) = false := by decide)
    (he : starEach (e :: es) X.env = (false, eval e X.env) :: starEach es X.env := by rfl) (hpl : (backTo pos (starEach es X.env)).any (·.1) = false := by rfl) : FE X L W (.Call (.Name x p) (e :: es) [] pos) (tCB r t) (wCal w wl) := by
  refine ⟨pe_callTy o.opr hg hm hv ha.pe hn hdb he hpl, fun b F s σ H Q R k I h hx kk => ?_⟩
  refine ha.snd b F s σ H _ R _ I h hx fun F1 ds vs H1 I1 m1 k1 r1 q => ?_
  exact o.snd b F1 s σ H1 vs ds Q k I1 r1 q fun F2 c v H2 I2 m2 k2 r2 z => kk F2 c v H2 I2 (m1.trans m2) (k1.trans k2) r2 z
abbrev rAbs : List V → Hp → VK → Prop := fun xs H Q => ∃ i, xs = [.int i] ∧ Q (.int (if i < 0 then -i else i)) H
abbrev rMax2 : List V → Hp → VK → Prop := fun xs H Q => ∃ i j, xs = [.int i, .int j] ∧ Q (.int (if j > i then j else i)) H
abbrev rMin2 : List V → Hp → VK → Prop := fun xs H Q => ∃ i j, xs = [.int i, .int j] ∧ Q (.int (if j < i then j else i)) H
abbrev rInt1 : List V → Hp → VK → Prop := fun xs H Q => (∃ i, xs = [.int i] ∧ Q (.int i) H) ∨ ∃ k, xs = [.bl k] ∧ Q (.int (if k then 1 else 0)) H
abbrev rLen (K : PySem.W.Frag) : List V → Hp → VK → Prop := fun xs H Q => ∃ x n, xs = [x] ∧ LenV K x H n ∧ Q (.int n) H
def dAbs : List D → (D → Prop) → Prop := fun ds Q => match ds with
  | [.int i] => Q (.int (if i < 0 then -i else i))
  | _ => False
theorem cal_abs : CalD X L (.builtin "abs") rAbs dAbs := by
  refine ⟨call_abs, fun b F s σ H vs ds Q k I h q kk => ?_⟩
  unfold dAbs at q
  split at q
  · cases h with
    | cons h1 h2 => cases h1; cases h2; exact ⟨_, rfl, kk F _ _ H I (Same.refl F) Kp.refl (.int _) q⟩
  · exact q.elim
def dMax2 : List D → (D → Prop) → Prop := fun ds Q => match ds with
  | [.int i, .int j] => Q (.int (if j > i then j else i))
  | _ => False
theorem cal_max2 (hc : X.calm = true) : CalD X L (.builtin "max") rMax2 dMax2 := by
  refine ⟨call_max2 hc, fun b F s σ H vs ds Q k I h q kk => ?_⟩
  unfold dMax2 at q
  split at q
  · cases h with
    | cons h1 h2 =>
      cases h1
      cases h2 with
      | cons h2 h3 => cases h2; cases h3; exact ⟨_, _, rfl, kk F _ _ H I (Same.refl F) Kp.refl (.int _) q⟩
  · exact q.elim
def dMin2 : List D → (D → Prop) → Prop := fun ds Q => match ds with
  | [.int i, .int j] => Q (.int (if j < i then j else i))
  | _ => False
theorem cal_min2 (hc : X.calm = true) : CalD X L (.builtin "min") rMin2 dMin2 := by
  refine ⟨call_min2 hc, fun b F s σ H vs ds Q k I h q kk => ?_⟩
  unfold dMin2 at q
  split at q
  · cases h with
    | cons h1 h2 =>
      cases h1
      cases h2 with
      | cons h2 h3 => cases h2; cases h3; exact ⟨_, _, rfl, kk F _ _ H I (Same.refl F) Kp.refl (.int _) q⟩
  · exact q.elim
def dInt1 : List D → (D → Prop) → Prop := fun ds Q => match ds with
  | [.int i] => Q (.int i)
  | [.bool b] => Q (.int (if b then 1 else 0))
  | _ => False
theorem cal_int1 : CalD X L (.type "int") rInt1 dInt1 := by
  refine ⟨call_int1, fun b F s σ H vs ds Q k I h q kk => ?_⟩
  unfold dInt1 at q
  split at q
  · cases h with
    | cons h1 h2 => cases h1; cases h2; exact .inl ⟨_, rfl, kk F _ _ H I (Same.refl F) Kp.refl (.int _) q⟩
  · cases h with
    | cons h1 h2 => cases h1; cases h2; exact .inr ⟨_, rfl, kk F _ _ H I (Same.refl F) Kp.refl (.int _) q⟩
  · exact q.elim
/-! ### one argument, only looked at -/
structure CalB (X : Cx) (L : Lw) (f : Value) (r : List V → Hp → VK → Prop) (w : D → (D → Prop) → Prop) : Prop where
  opr : CallR X f r
  snd : ∀ (b : Beg) (F : Hp) (s : Sl) (σ : L2.St) (H : Hp) (v : V) (d : D) (Q : D → Prop) (k : VK), Rel X.K L b F s σ H → DpB X.K b F H v d → w d Q →
    (∀ F' c v H', Rel X.K L b F' s σ H' → Same F F' → Kp b H H' → Dt X.K F' v c → Q c → k v H') → r [v] H k
def wCalB (w : D → (D → Prop) → Prop) (wa : We) : We := fun s Q R => wa s (fun d => w d Q) R
variable {w1 : D → (D → Prop) → Prop}
theorem fe_bi1 (o : CalB X L (.builtin id) r w1) (hm : X.mg x = none) (hv : bootBuiltins x = some (.builtin id)) (ha : FB X L W e te we) (hg : Gl X x := by rfl) (hn : x ≠ "__name__" := by decide) (hdb : (x == ("__debug__" : Str)) = false := by decide)
    (he : starEach [e] X.env = (false, eval e X.env) :: starEach [] X.env := by rfl) : FE X L W (.Call (.Name x p) [e] [] pos) (tCB r (tCons te tNil)) (wCalB w1 we) := by
  refine ⟨pe_callB o.opr hg hm hv (pa_cons ha.pe pa_nil he) hn hdb he rfl, fun b F s σ H Q R k I h hx kk => ?_⟩
  refine ha.snd b F s σ H _ R _ I h hx fun F1 d v H1 I1 m1 k1 r1 q => ?_
  exact o.snd b F1 s σ H1 v d Q k I1 r1 q fun F2 c v H2 I2 m2 k2 r2 z => kk F2 c v H2 I2 (m1.trans m2) (k1.trans k2) r2 z
theorem fe_ty1 (o : CalB X L (.type T) r w1) (hm : X.mg x = none) (hv : bootBuiltins x = some (.type T)) (ha : FB X L W e te we) (hg : Gl X x := by rfl) (hn : x ≠ "__name__" := by decide) (hdb : (x == ("__debug__" : Str)) = false := by decide)
    (he : starEach [e] X.env = (false, eval e X.env) :: starEach [] X.env := by rfl) : FE X L W (.Call (.Name x p) [e] [] pos) (tCB r (tCons te tNil)) (wCalB w1 we) := by
  refine ⟨pe_callTy o.opr hg hm hv (pa_cons ha.pe pa_nil he) hn hdb he rfl, fun b F s σ H Q R k I h hx kk => ?_⟩
  refine ha.snd b F s σ H _ R _ I h hx fun F1 d v H1 I1 m1 k1 r1 q => ?_
  exact o.snd b F1 s σ H1 v d Q k I1 r1 q fun F2 c v H2 I2 m2 k2 r2 z => kk F2 c v H2 I2 (m1.trans m2) (k1.trans k2) r2 z
def dLen : D → (D → Prop) → Prop := fun d Q => match d with
  | .list ds => Q (.int ds.length)
  | .tuple ds => Q (.int ds.length)
  | .str z => z.length ≤ sizeLine ∧ Q (.int z.length)
  | _ => False
theorem cal_len : CalB X L (.builtin "len") (rLen X.K) dLen := by
  refine ⟨call_len, fun b F s σ H v d Q k I h q kk => ?_⟩
  have h' := h.at I.sub
  cases h' with
  | lst h1 h2 => exact ⟨_, _, rfl, .inl ⟨_, h1, (dps_len h2).symm⟩, kk F _ _ H I (Same.refl F) Kp.refl (.int _) q⟩
  | tup h1 h2 => exact ⟨_, _, rfl, .inr ⟨_, h1, (dps_len h2).symm⟩, kk F _ _ H I (Same.refl F) Kp.refl (.int _) q⟩
  | str z => exact ⟨_, _, rfl, ⟨q.1, rfl⟩, kk F _ _ H I (Same.refl F) Kp.refl (.int _) q.2⟩
  | _ => exact q.elim
/-! ### isinstance(x, T), T a built-in type -/
def tyD : D → String
  | .none => "NoneType" | .bool _ => "bool" | .int _ => "int" | .str _ => "str" | .list _ => "list" | .tuple _ => "tuple" | .dict _ => "dict"
def isIntD : D → Bool
  | .int _ => true | .bool _ => true | _ => false
def isBoolD : D → Bool
  | .bool _ => true | _ => false
def isStrD : D → Bool
  | .str _ => true | _ => false
def isTupD : D → Bool
  | .tuple _ => true | _ => false
def isLstD : D → Bool
  | .list _ => true | _ => false
def isDctD : D → Bool
  | .dict _ => true | _ => false
structure IsiD (T : String) (f : D → Bool) : Prop where
  ok : ∀ d, kitB (tyD d) T = some (f d)
def tyNames : List String := ["NoneType", "bool", "int", "str", "list", "tuple", "dict"]
theorem isi_by {T : String} {f : D → Bool} (g : String → Bool) (h1 : ∀ d, f d = g (tyD d)) (h2 : (tyNames.all fun n => kitB n T == some (g n)) = true) : IsiD T f := ⟨fun d => by
  rw [h1 d]
  have h : tyD d ∈ tyNames := by cases d <;> simp [tyD, tyNames]
  exact beq_iff_eq.mp (List.all_eq_true.mp h2 _ h)⟩
theorem isi_int : IsiD "int" isIntD := isi_by (fun n => n == "int" || n == "bool") (fun d => by cases d <;> rfl) (by decide +kernel)
theorem isi_bool : IsiD "bool" isBoolD := isi_by (fun n => n == "bool") (fun d => by cases d <;> rfl) (by decide +kernel)
theorem isi_str : IsiD "str" isStrD := isi_by (fun n => n == "str") (fun d => by cases d <;> rfl) (by decide +kernel)
theorem isi_tup : IsiD "tuple" isTupD := isi_by (fun n => n == "tuple") (fun d => by cases d <;> rfl) (by decide +kernel)
theorem isi_lst : IsiD "list" isLstD := isi_by (fun n => n == "list") (fun d => by cases d <;> rfl) (by decide +kernel)
theorem tyx_of {K : PySem.W.Frag} {H : Hp} {v : V} {d : D} (h : Dt K H v d) : TyX K H v (.type (tyD d)) := by
  cases h with
  | non => exact .base .non
  | bl b => exact .base (.bl b)
  | int i => exact .base (.int i)
  | str x => exact .base (.str x)
  | lst h1 h2 =>
    rcases h1 with (h1 | ⟨o, h1⟩) | ⟨o, its, n, h1, h3, _⟩
    · exact .base (.lst h1)
    · exact .base (.frz h1)
    · exact .kList h1 h3
  | tup h1 h2 =>
    rcases h1 with (h1 | ⟨o, h1⟩) | ⟨o, its, n, h1, h3, _⟩
    · exact .base (.tup h1)
    · exact .fTuple h1
    · exact .kTuple h1 h3
def wIsi (f : D → Bool) (wa : We) : We := fun s Q R => wa s (fun d => Q (.bool (f d))) R
theorem fe_isi {y : Str} {p2 : Pos} {f : D → Bool} (o : IsiD T f) (hm : X.mg "isinstance" = none) (hb : bootBuiltins "isinstance" = some (.builtin "isinstance")) (hmT : X.mg y = none) (hv : bootBuiltins y = some (.type T)) (ha : FB X L W e te we) (hg : Gl X "isinstance" := by rfl) (hgT : Gl X y := by rfl)
    (hn : y ≠ "__name__" := by decide) (hdb : (y == ("__debug__" : Str)) = false := by decide) (he : starEach (e :: [.Name y p2]) X.env = (false, eval e X.env) :: starEach [.Name y p2] X.env := by rfl) :
    FE X L W (.Call (.Name "isinstance" p) [e, .Name y p2] [] pos) (tCB (rIsi X.K) (tCons te (tCons (tC (.ty T)) tNil))) (wIsi f we) := by
  refine ⟨pe_callB call_isi hg hm hb (pa_cons ha.pe (pa_cons (pe_bltn hgT hmT hv rfl hn hdb) pa_nil) he) (by decide) (by decide) he rfl, fun b F s σ H Q R k I h hx kk => ?_⟩
  refine ha.snd b F s σ H _ R _ I h hx fun F1 d v H1 I1 m1 k1 r1 q => ?_
  exact ⟨v, .ty T, .type (tyD d), .type T, f d, rfl, .ty T, tyx_of (r1.at I1.sub), kit_ty (o.ok d), kk F1 _ _ H1 I1 m1 k1 (.bl _) q⟩
/-! ### xs.append(e) -/
def wApp (i : Nat) (wa : We) : Ws := fun s E => match s[i]? with
  | some (.ow ds) => wa s (fun d => ds.length < sizeLine ∧ E.nx (s.set i (.ow (ds ++ [d])))) E.ex
  | _ => False
theorem Rel.grow {K : PySem.W.Frag} {b : Beg} {F : Hp} {s : Sl} {σ : L2.St} {H : Hp} {i : Nat} {ds es : List D} {a : Addr} {us : List V} (I : Rel K L b F s σ H) (e : s[i]? = some (.ow ds)) (ea : σ[i]? = some (some (.ref a))) (r : DtAll K F us es) :
    Rel K L b F (s.set i (.ow es)) σ (upd H a (.lst us)) := by
  have hi : i < s.length := (List.getElem?_eq_some_iff.mp e).1
  have hsg : σ.getD i none = some (.ref a) := by rw [List.getD_eq_getElem?_getD, ea]; rfl
  obtain ⟨a', vs, e1, h0, hd, hf, hh, hs⟩ := I.slot i _ e
  rw [hsg] at e1
  cases e1
  have ne : ∀ c o, H c = some o → (∀ ys, o ≠ .lst ys) → c ≠ a := fun c o h n z => by subst z; rw [hh] at h; cases h; exact n vs rfl
  have kp : Kp b b.H0 (upd H a (.lst us)) := fun c o h n t => by
    have z : c ≠ a := fun z => by subst z; rw [h0] at h; cases h
    rw [upd_ne z]; exact I.keep c o h n t
  refine { sub := fun c o h => ?_, old := I.old, new := I.new, keep := kp, live := fun c h => ?_, drw := fun c h => ?_, tab := fun P h => ?_, ntb := I.ntb, len := by rw [List.length_set]; exact I.len, slot := fun j c h => ?_, apart := fun j k c n h1 h2 h3 => ?_ }
  · have z : c ≠ a := fun z => by subst z; rw [hf] at h; cases h
    rw [upd_ne z]; exact I.sub c o h
  · refine I.live c ?_
    by_cases z : c = a
    · subst z; rw [upd_same] at h; cases h
    · rw [upd_ne z] at h; exact h
  · obtain ⟨h1, ws, fs, h2, h3⟩ := I.drw c h
    have z : c ≠ a := fun z => hd (by rw [← z]; exact h)
    exact ⟨h1, ws, fs, by rw [upd_ne z]; exact h2, h3⟩
  · obtain ⟨ps, h1, h2⟩ := I.tab P h
    exact ⟨ps, by rw [upd_ne (ne P _ h1 fun ys z => by cases z)]; exact h1, h2⟩
  · by_cases q : j = i
    · subst q
      rw [List.getElem?_set, if_pos rfl, if_pos hi] at h
      cases h
      exact ⟨a, us, hsg, h0, hd, hf, upd_same, r⟩
    · rw [List.getElem?_set_ne (Ne.symm q)] at h
      have x := I.slot j c h
      cases c with
      | no => trivial
      | fz d => exact x
      | dr => exact x
      | px _ => exact x
      | lk fs =>
        obtain ⟨a2, ws, e2, g0, gd, gh, gs⟩ := x
        exact ⟨a2, ws, e2, g0, gd, by rw [upd_ne (fun z => g0 (by rw [z]; exact h0))]; exact gh, gs⟩
      | ow fs =>
        obtain ⟨a2, ws, e2, g0, gd, gf, gh, gs⟩ := x
        have z : a2 ≠ a := fun z => by
          subst z
          have hj : j < σ.length := by rw [I.len]; exact (List.getElem?_eq_some_iff.mp h).1
          have ej : σ[j]? = some (some (.ref a2)) := by
            rw [List.getD_eq_getElem?_getD, List.getElem?_eq_getElem hj] at e2
            rw [List.getElem?_eq_getElem hj]; exact congrArg some e2
          exact I.apart i j a2 (Ne.symm q) (by rw [e]; trivial) (by rw [h]; trivial) ea ej
        exact ⟨a2, ws, e2, g0, gd, gf, by rw [upd_ne z]; exact gh, gs⟩
  · have fix : ∀ {m : Nat}, isOw (s.set i (.ow es))[m]? → isOw s[m]? := fun {m} z => by
      by_cases q : m = i
      · subst q; rw [e]; trivial
      · rw [List.getElem?_set_ne (Ne.symm q)] at z; exact z
    exact I.apart j k c n (fix h1) (fix h2) h3
theorem slot_ref {K : PySem.W.Frag} {b : Beg} {F : Hp} {s : Sl} {σ : L2.St} {H : Hp} {i : Nat} {ds : List D} (I : Rel K L b F s σ H) (e : s[i]? = some (.ow ds)) : ∃ a vs, σ[i]? = some (some (.ref a)) ∧ b.H0 a = none ∧ b.dr ≠ some a ∧ F a = none ∧ H a = some (.lst vs) ∧ DtAll K F vs ds := by
  obtain ⟨a, vs, e1, h0, hd, hf, hh, hs⟩ := I.slot i _ e
  have hj : i < σ.length := by rw [I.len]; exact (List.getElem?_eq_some_iff.mp e).1
  refine ⟨a, vs, ?_, h0, hd, hf, hh, hs⟩
  rw [List.getD_eq_getElem?_getD, List.getElem?_eq_getElem hj] at e1
  rw [List.getElem?_eq_getElem hj]
  exact congrArg some e1
theorem fs_app (i : Nat) {x : Str} {p2 p3 : Pos} (ha : FE X L W e te we) (hN : X.N[i]? = some x := by rfl) (hv : Vis X.env.scope x := by first | exact Or.inl rfl | exact Or.inr (Or.inl rfl) | exact Or.inr (Or.inr rfl)) (hd : (x == ("__debug__" : Str)) = false := by decide)
    (hcd : (x == ("__classdict__" : Str)) = false := by decide) (hbase : attributeBase (.Name x p) "append" X.env (eval (.Name x p) X.env) = eval (.Name x p) X.env := by rfl)
    (hfew : ((backTo p3 (starEach [e] X.env)).all (fun x => !x.1) && (backToKw p3 (keywordEach [] X.env)).all (fun x => x.1.isSome) && decide ([e].length + ([] : List Keyword).length + (if ([] : List Keyword).isEmpty then 0 else 1) < 30)) = true := by rfl)
    (hline : (p2.endLine == p3.line) = true := by rfl) (hst : starEach [e] X.env = (false, eval e X.env) :: starEach [] X.env := by rfl)
    (hs : swapsWith (.Call (.Attribute (.Name x p) "append" p2) [e] [] p3) none pos.line X.env = pure false := by rfl) : FS X L W (.Expr (.Call (.Attribute (.Name x p) "append" p2) [e] [] p3) pos) (tDrop (tBM X.K "list" rAppend (tVar i) (tCons te tNil))) (wApp i we) := by
  refine ⟨ps_expr (pe_bm PySem.F.plainAttrs_list PySem.F.slot_list_append PySem.F.type_list_append mt_append (pv i hN hv hd hcd) (pa_cons ha.pe pa_nil hst) hbase hfew hline hst rfl) hs, fun b F s σ H E D' I h ok => ?_⟩
  unfold wApp at h
  split at h
  · rename_i ds q
    obtain ⟨a, vs, e1, h0, hd1, hf, hh, hs1⟩ := slot_ref I q
    refine ⟨_, e1, .inl ⟨rfl, _, .inl (.inl hh)⟩, ?_⟩
    refine ha.snd b F s σ H _ E.ex _ I h ok.exw fun F1 d v H1 I1 m1 k1 r1 z => ?_
    obtain ⟨a', vs', e1', _, _, _, hh', hs'⟩ := slot_ref I1 q
    rw [e1] at e1'
    cases e1'
    exact ⟨a, vs', v, rfl, rfl, hh', by rw [dps_len hs']; exact z.1, ok.nx F1 _ _ _ (I1.grow q e1 (dps_app hs' (dps_one r1))) m1 z.2⟩
  · exact h.elim
end
end FL

/-! FL8: the draws; a law's own def. -/
namespace FL
open PySem PySem.Spec PyProof.Rows L2
/-- draws that are a row of ints -/
def goodA (ds : List D) : Prop := ∃ ns : List Int, ds = ns.map .int
def lwA (tabs : List Addr) : Lw := ⟨tabs, goodA⟩
section
variable {X : Cx} {L : Lw} {W : WX}
theorem Rel.toDr {K : PySem.W.Frag} {b : Beg} {F : Hp} {s : Sl} {σ : L2.St} {H : Hp} {p : Addr} {vs : List V} {ds : List D} {i : Nat} (I : Rel K L b F s σ H) (hb : b.dr = none) (fr : Fresh b F s σ p) (e : H p = some (.lst vs)) (r : DtAll K F vs ds) (hg : L.good ds) :
    Rel K L ⟨b.H0, b.F0, some p⟩ F (s.set i .dr) (σ.set i (some (.ref p))) H where
  sub := I.sub
  old := I.old
  new := I.new
  keep := fun a o h _ t => I.keep a o h (by rw [hb]; simp) t
  live := I.live
  drw := fun a h => by
    cases (show some p = some a from h)
    exact ⟨fr.hf, vs, ds, e, r, hg⟩
  tab := I.tab
  ntb := I.ntb
  len := by rw [List.length_set, List.length_set, I.len]
  slot := fun j c q => by
    by_cases n : j = i
    · subst n
      rw [List.getElem?_set] at q
      split at q
      · split at q
        · cases q
          rename_i hj
          refine ⟨p, ?_, rfl⟩
          rw [List.getD_eq_getElem?_getD, List.getElem?_set, if_pos rfl, if_pos (by rw [I.len]; exact hj)]
          rfl
        · cases q
      · rename_i z; exact absurd rfl z
    · rw [List.getElem?_set_ne (Ne.symm n)] at q
      have hs : (σ.set i (some (.ref p))).getD j none = σ.getD j none := by
        rw [List.getD_eq_getElem?_getD, List.getElem?_set_ne (Ne.symm n), ← List.getD_eq_getElem?_getD]
      rw [hs]
      have x := I.slot j c q
      cases c with
      | no => trivial
      | fz d => exact x
      | px _ => exact x
      | dr =>
        obtain ⟨a, _, z⟩ := x
        rw [hb] at z; cases z
      | lk fs =>
        obtain ⟨a, ws, e1, h0, hd, hh, hs1⟩ := x
        exact ⟨a, ws, e1, h0, fun z => by cases (show some p = some a from z); exact h0 fr.h0, hh, hs1⟩
      | ow fs =>
        obtain ⟨a, ws, e1, h0, hd, hf, hh, hs1⟩ := x
        refine ⟨a, ws, e1, h0, fun z => ?_, hf, hh, hs1⟩
        cases (show some p = some a from z)
        have hj : j < σ.length := by rw [I.len]; exact (List.getElem?_eq_some_iff.mp q).1
        refine fr.hn j (by rw [q]; trivial) ?_
        rw [List.getD_eq_getElem?_getD, List.getElem?_eq_getElem hj] at e1
        rw [List.getElem?_eq_getElem hj]
        exact congrArg some e1
  apart := fun j k a n h1 h2 h3 h4 => by
    have nj : ∀ m, isOw (s.set i .dr)[m]? → m ≠ i := fun m z y => by
      subst y; rw [List.getElem?_set] at z
      split at z
      · split at z <;> exact z
      · rename_i y; exact absurd rfl y
    have n1 := nj j h1
    have n2 := nj k h2
    rw [List.getElem?_set_ne (Ne.symm n1)] at h1 h3
    rw [List.getElem?_set_ne (Ne.symm n2)] at h2 h4
    exact I.apart j k a n h1 h2 h3 h4
/-- the law's own promise -/
def spLaw (K : PySem.W.Frag) (L : Lw) : Sp := fun vs H Q E => ∃ (a : Addr) (ns : List Int), vs = [.ref a] ∧ SqL K H a (ns.map V.int) ∧ ns.length ≤ 63 ∧ (∀ z ∈ ns, Builtin.Int.intBits z ≤ 1048576) ∧ (∀ P ∈ L.tabs, TabG H P) ∧ ∀ H', Q (.bl true) H'
/-- all but the tables -/
def noTab (H : Hp) : Hp := fun a => match H a with
  | some (.tbl _) => none
  | o => o
theorem noTab_some {H : Hp} {a : Addr} {o : HO} (h : noTab H a = some o) : H a = some o ∧ ∀ ps, o ≠ .tbl ps := by
  unfold noTab at h
  split at h
  · cases h
  · rename_i n
    refine ⟨h, fun ps z => ?_⟩
    subst z
    exact n ps h
theorem noTab_of {H : Hp} {a : Addr} {o : HO} (h : H a = some o) (n : ∀ ps, o ≠ .tbl ps) : noTab H a = some o := by
  unfold noTab
  split
  · rename_i ps e
    rw [h] at e
    cases e
    exact absurd rfl (n ps)
  · exact h
theorem grd_law {K : PySem.W.Frag} {H : Hp} (ht : ∀ P ∈ L.tabs, TabG H P) : Grd K L ⟨H, noTab H, none⟩ (noTab H) H where
  sub := fun a o h => (noTab_some h).1
  old := Same.refl _
  new := fun _ _ h => .inl h
  keep := Kp.refl
  live := fun _ h => h
  drw := fun a h => by cases h
  tab := ht
  ntb := fun a ps h => (noTab_some h).2 ps rfl
theorem script_noTab {K : PySem.W.Frag} {H : Hp} {a : Addr} {xs : List V} (h : SqL K H a xs) : SqL K (noTab H) a xs := by
  rcases h with (h | ⟨o, h⟩) | h
  · exact .inl (.inl (noTab_of h fun ps z => by cases z))
  · exact .inl (.inr ⟨o, noTab_of h fun ps z => by cases z⟩)
  · exact .inr h
def asgVal : Stmt → Expr
  | .Assign _ a _ => a
  | _ => .Constant .none 0 ⟨0, 0, 0, 0⟩
theorem fn_law {P : Program} {w : World} {K : PySem.W.Frag} {mg : Str → Option Value} {base : Heap} {x qual : Str} {st : Stmt} {f : Addr} {fd : FuncData} {N : List Str} {k i : Nat} {par : Str} {s0 : Stmt} {rest : List Stmt} (Fn : Fun K x qual st f fd) (S : FnScope N [par] (defScope st)) (hst : defBody st = s0 :: rest)
    (hbody : ∀ (cdv : Value), fd.code = cdv → ∀ (A : Around) (outer : List Env) (s : Shared) (H : Hp) (E : XK), Room k (A.deeper (envOfC qual (defScope st) s.heap.objs.size f cdv)) →
      L2N.Takes (cxOf (L2N.CX P w) P w K mg base N qual (defScope st) f cdv A outer s H E) (fun cls d _ H => E cls d H) →
      PassesOwn (model P w) (cxOf (L2N.CX P w) P w K mg base N qual (defScope st) f cdv A outer s H E).A (cxOf (L2N.CX P w) P w K mg base N qual (defScope st) f cdv A outer s H E).env (cxOf (L2N.CX P w) P w K mg base N qual (defScope st) f cdv A outer s H E).xe →
      ∃ t wl t2 ws, PS (cxOf (L2N.CX P w) P w K mg base N qual (defScope st) f cdv A outer s H E) s0 (tAsg t (gName i)) ∧ FN (cxOf (L2N.CX P w) P w K mg base N qual (defScope st) f cdv A outer s H E) L (fun cls d _ H => E cls d H) (asgVal s0) t wl ∧
        FSs (cxOf (L2N.CX P w) P w K mg base N qual (defScope st) f cdv A outer s H E) L (fun cls d _ H => E cls d H) rest t2 ws ∧
        ∀ ns : List Int, ns.length ≤ 63 → (∀ z ∈ ns, Builtin.Int.intBits z ≤ 1048576) → wl (startS N.length [.fz (.list (ns.map .int))]) (fun ds => L.good ds ∧ ws ((startS N.length [.fz (.list (ns.map .int))]).set i .dr) { nx := fun _ => False, rt := fun d => d = .bool true, ex := fun _ => False }) (fun _ => False)) :
    FnOk P w K mg base (L2N.CX P w) (k + 1) f fd [par] (spLaw K L) := by
  refine okC Fn S (fun vs H Q E h => ?_) (fun cdv hcd A outer s H vs Q E hr h => ?_)
  · obtain ⟨a, ns, rfl, _⟩ := h
    rfl
  · obtain ⟨a, ns, rfl, hS, hl, hb, ht, q⟩ := h
    obtain ⟨t, wl, t2, ws, hp, hn, hd, hq⟩ := hbody cdv hcd A outer s H E hr (L2N.takes_of rfl rfl rfl rfl) (passes_of rfl)
    refine ⟨tSeq (tAsg t (gName i)) t2, by rw [hst]; exact pss_cons hp hd.pe, ?_⟩
    have g0 := grd_law (K := K) (H := H) ht
    have I0 : Rel K L ⟨H, noTab H, none⟩ (noTab H) (startS N.length [.fz (.list (ns.map .int))]) (L2.start N [.ref a]) H := rel_start g0 ⟨.lst (script_noTab hS) (dps_of_ints ns), trivial⟩
    refine hn.snd _ _ _ _ H _ _ _ I0 (hq ns hl hb) (fun cls F' H' I m z => z.elim) fun F1 ds p vs H1 I1 m1 k1 fr e1 r1 z => ?_
    refine hd.snd _ F1 _ _ H1 _ _ (I1.toDr rfl fr e1 r1 z.1) z.2 ⟨fun F' s' σ' H' I m z => z.elim, fun F' s' σ' H' v d I m r z => ?_, fun F' s' σ' H' I m z => z.elim, fun F' s' σ' H' I m z => z.elim, fun cls F' s' σ' H' I m z => z.elim, fun F' s' σ' H' p vs ds I m fr e r z => z.elim⟩
    subst z
    cases r
    exact q H'
/-! ### taking a draw: len(draws) == 0, draws.pop() -/
def spTake : Fs := fun cs q _ => match cs with
  | [.dr, .fz (.int n)] => 0 < n ∧ ∀ v : Int, 0 ≤ v → v < n → q (.int v)
  | _ => False
theorem take_inv {cs : List Cel} {q : D → Prop} {r : Value → Prop} (h : spTake cs q r) : ∃ n : Int, cs = [.dr, .fz (.int n)] ∧ 0 < n ∧ ∀ v : Int, 0 ≤ v → v < n → q (.int v) := by
  unfold spTake at h
  split at h
  · exact ⟨_, rfl, h⟩
  · exact h.elim
theorem fn_take {P : Program} {w : World} {K : PySem.W.Frag} {mg : Str → Option Value} {base : Heap} {x qual : Str} {st : Stmt} {f : Addr} {fd : FuncData} {tabs : List Addr} (Fn : Fun K x qual st f fd) (S : FnScope ["draws", "bound"] ["draws", "bound"] (defScope st)) (ml : mg "len" = none) (mi : mg "int" = none)
    (hb : ∀ (X : Cx), X.mg = mg → X.env.scope = defScope st → X.N = (["draws", "bound"] : List Str) → PSs X (defBody st) (tSeq (tIfS (tTest (tOp rEq (tCB (rLen X.K) (tCons (tVar 0) tNil)) (tC (.int 0)))) (tRet (tC (.int 0))) tNext)
      (tRet (tOp (rI (fun _ j => 0 < j) fun i j => .int (i % j)) (tCB rInt1 (tCons (tBM0 X.K "list" rPop (tVar 0)) tNil)) (tVar 1))))) :
    FnOk P w K mg base (L2N.CX P w) 1 f fd ["draws", "bound"] (Spf K (lwA tabs) spTake) := by
  refine okC (k := 0) Fn S (fun vs H Q E h => ?_) (fun cdv _ A outer s H vs Q E hr h => ?_)
  · obtain ⟨b, F, cs, q, r, g, ha, hw, _⟩ := h
    obtain ⟨n, rfl, _⟩ := take_inv hw
    exact ha.len
  · obtain ⟨b, F, cs, q, r, g, ha, hw, h1, h2⟩ := h
    obtain ⟨n, rfl, hn, hq⟩ := take_inv hw
    refine ⟨_, hb _ rfl rfl rfl, ?_⟩
    match vs, ha with
    | [x, y], ha =>
      obtain ⟨⟨a, rfl, hdr⟩, hy, _⟩ := ha
      cases (show Dt K F y (.int n) from hy)
      obtain ⟨hf, us, ds, hh, hs, ns, rfl⟩ := g.drw a hdr
      rw [dps_ints hs] at hh
      have fin : ∀ (H' : Hp) (v : Int), Grd K (lwA tabs) b F H' → 0 ≤ v → v < n → Q (.int v) H' := fun H' v g' v0 v1 => h1 F (.int v) (.int v) H' g' (Same.refl F) (.int v) (hq v v0 v1)
      refine ⟨.ref a, rfl, _, _, rfl, .inl ⟨_, .inl (.inl hh), rfl⟩, rfl, _, rfl, ite2 (fun e => ?_) (fun e => ?_)⟩
      · exact fin H 0 g (by omega) (by omega)
      · have hne : ns ≠ [] := fun z => by
          subst z
          exact e (decide_eq_true rfl)
        have hlast : (ns.map V.int)[(ns.map V.int).length - 1]? = some (.int (ns.getLast hne)) := by
          rw [List.length_map, List.getElem?_map, ← List.getLast?_eq_getElem?, List.getLast?_eq_some_getLast hne]
          rfl
        refine ⟨.ref a, rfl, .inl ⟨rfl, _, .inl (.inl hh)⟩, a, _, _, rfl, rfl, hh, hlast, .inl ⟨_, rfl, .int n, rfl, _, n, rfl, rfl, hn, fin _ _ ?_ (Int.emod_nonneg _ (by omega)) (Int.emod_lt_of_pos _ hn)⟩⟩
        have nf : ∀ c o, F c = some o → c ≠ a := fun c o h z => by subst z; rw [hf] at h; cases h
        exact {
          sub := fun c o h => by rw [upd_ne (nf c o h)]; exact g.sub c o h
          old := g.old
          new := g.new
          keep := fun c o h d t => by
            have z : c ≠ a := fun z => by subst z; exact d hdr
            rw [upd_ne z]; exact g.keep c o h d t
          live := fun c h => g.live c (by
            by_cases z : c = a
            · subst z; rw [upd_same] at h; cases h
            · rw [upd_ne z] at h; exact h)
          drw := fun c h => by
            rw [hdr] at h
            cases h
            exact ⟨hf, _, ns.dropLast.map .int, upd_same, by rw [← List.map_dropLast]; exact dps_of_ints _, ns.dropLast, rfl⟩
          tab := fun P h => by
            obtain ⟨ps, h3, h4⟩ := g.tab P h
            have z : P ≠ a := fun z => by subst z; rw [hh] at h3; cases h3
            exact ⟨ps, by rw [upd_ne z]; exact h3, h4⟩
          ntb := g.ntb }
end
end FL

/-! FL9: list(..), tuple(..), list(reversed(..)). -/
namespace FL
open PySem PySem.Spec PyProof.Rows L2
section
variable {prog : Program} {w : World} {A : Around} {E : Value → Shared → Prop} {s : Shared}
/-- list(r), r a reversed list's iterator that has not moved -/
theorem list_of_rev {it l : Addr} {items : Array Value} {Q : Value → Shared → Prop} (hh : A.handled = none) (hit : s.heap.IsRevIter it l ((items.size : Int) - 1)) (hl : s.heap.IsList l items) (hne : l ≠ it) (hn : items.size ≤ sizeLine)
    (hQ : ∀ (h' : Heap) (tk : Nat) (acc : Array Value) (c : Nat), (∀ b o, b ≠ it → s.heap.get? b = some o → h'.get? b = some o) → h'.get? s.heap.objs.size = some { cls := .type "list", dict := none, data := .seq acc c, slots := #[] } →
      ItemsOf (fun i v => items[items.size - 1 - i]? = some v) acc items.size → Q (.ref s.heap.objs.size) { s with heap := h', toks := tk }) : wpAny (model prog w) A (call (.type "list") [.ref it]) Q E s := by
  have lt_it : it < s.heap.objs.size := let ⟨_, ho, _⟩ := hit; Heap.lt_size ho
  have lt_l : l < s.heap.objs.size := let ⟨_, ho, _⟩ := hl; Heap.lt_size ho
  have hSi : s.heap.objs.size ≠ it := Nat.ne_of_gt lt_it
  have hSl : s.heap.objs.size ≠ l := Nat.ne_of_gt lt_l
  have hSf : s.heap.objs.size ∉ [it, l] := by
    simp only [List.mem_cons, List.not_mem_nil, or_false, not_or]
    exact ⟨hSi, hSl⟩
  refine callType_codes (Q₁ := fun obj s₁ => obj = .ref s.heap.objs.size ∧ s₁ = { s with heap := s.heap.push { cls := .type "list", data := .seq #[] } }) PySem.F.called_list (PySem.F.typeCall_list_1 _) PySem.F.entry_list_init (code_list_new _ ⟨rfl, rfl⟩) ?_
  rintro obj s₁ ⟨rfl, rfl⟩
  have e0 : (s.heap.push { cls := .type "list", data := .seq #[] }).get? s.heap.objs.size = some { cls := .type "list", data := .seq #[] } := Heap.get?_push_size _ rfl
  refine ⟨⟨_, e0, rfl⟩, PySem.F.args_list_init_2 _ _, ?_⟩
  show wpAny _ A.in1.in1 (do let old ← Builtin.List.listItems (.ref s.heap.objs.size); Builtin.List.listUpdate (.ref s.heap.objs.size) (fun _ => #[]); letGo old.toList.reverse; Builtin.List.listExtendWith (.ref s.heap.objs.size) (.ref it) .none) _ _ _
  refine wpAny_bind ?_
  unfold Builtin.List.listItems
  refine wpAny_bind (wpAny_seqItems e0 rfl (wpAny_pure ?_))
  show wpAny _ A.in1.in1 (updateSeq s.heap.objs.size (fun _ => #[]) >>= fun _ => letGo (#[] : Array Value).toList.reverse >>= fun _ => Builtin.List.listExtendWith (.ref s.heap.objs.size) (.ref it) .none) _ _ _
  refine wpAny_bind (wpAny_updateSeq e0 rfl ?_)
  have e1 := Heap.get?_update_self (Obj.mapSeq (fun _ => (#[] : Array Value))) e0 rfl
  have up : ∀ b o, s.heap.get? b = some o → ((s.heap.push { cls := .type "list", data := .seq #[] }).update s.heap.objs.size (Obj.mapSeq (fun _ => (#[] : Array Value)))).get? b = some o := fun b o e =>
    (Heap.get?_update_other _ _ (Nat.ne_of_gt (Heap.lt_size e))).trans (Heap.get?_push_of_some _ e)
  refine wpAny_bind (wpAny_letGo ?_)
  have it1 := hit.at fun o e => up it o e
  have l1 : ((s.heap.push { cls := .type "list", data := .seq #[] }).update s.heap.objs.size (Obj.mapSeq (fun _ => (#[] : Array Value)))).IsList l items := by
    obtain ⟨o, ho, r⟩ := hl
    exact ⟨o, up l o ho, r⟩
  have ty : ∀ {h : Heap} {tk : Nat}, h.IsRevIter it l ((items.size : Int) - 1) → ({ s with heap := h, toks := tk } : Shared).TypeIs (.ref it) "list_reverseiterator" := fun {h tk} x => Heap.IsRevIter.typeIs (s := { s with heap := h, toks := tk }) x
  have ns : Builtin.List.listSameRef (.ref s.heap.objs.size) (.ref it) = false := by simp [Builtin.List.listSameRef, hSi]
  unfold Builtin.List.listExtendWith
  refine wpAny_bind (wpAny_typeOf (ty (tk := s.toks) it1) ?_)
  rw [if_neg (show ¬ _ by rw [ns]; decide)]
  refine wpAny_bind (wpAny_pyIter_revIter (s := { s with heap := _ }) it1 ?_)
  refine wpAny_bind (wpAny_holding ?_)
  unfold Builtin.List.listLengthHint
  refine wpAny_bind (wpAny_specialOf (ty (tk := s.toks) it1) RT.nolen_lri ?_)
  show wpAny _ A.in1.in1 (specialOf (Value.ref it) (Str.ofString "__length_hint__") >>= _) _ _ _
  refine wpAny_bind (wpAny_specialOf (ty (tk := s.toks) it1) RT.hint_lri ?_)
  generalize hid : ("list_reverseiterator.__length_hint__" : String) = id0
  wp_delta
  rw [show splitId id0 = some ("list_reverseiterator", "__length_hint__") from by subst hid; decide +kernel]
  subst hid
  refine wpAny_bind (wpAny_isInstance (b := true) (ty (tk := s.toks) it1) (by rw [isSubtype_type]; kernel_rfl) ?_)
  refine wpAny_pure ?_
  rw [if_neg (by decide)]
  have W := (Walks.listRev (prog := prog) (w := w) (A := A.in1.in1) hh it l hne items).toS
  have ez : ((items.size : Nat) : Int) - 1 - ((0 : Nat) : Int) = (items.size : Int) - 1 := by omega
  refine wpAny_pure ⟨plainId_quiet PySem.F.plain_extend_loop _, codeAny_extend_loopS W hn _ hSf _ items.size 0 _ _ _ rfl (Nat.zero_le _) ⟨Nat.zero_le _, by rw [ez]; exact it1, l1⟩ e1 (ItemsOf.nil _) ?_⟩
  intro s' acc c hm hS hacc
  refine ⟨rfl, ?_⟩
  rw [Moved.eq_with hm]
  refine hQ s'.heap s'.toks acc c (fun b o hb e => hm.heap b o (fun hmem => ?_) (up b o e)) hS hacc
  rcases List.mem_cons.mp hmem with z | z
  · exact absurd (Heap.lt_size e) (by rw [z]; exact Nat.lt_irrefl _)
  · exact hb (List.mem_singleton.mp z)
end
section
variable {X : Cx} {L : Lw} {W : WX} {pos p : Pos} {e : Expr} {te : TE} {we : We}
def tLstRev (K : PySem.W.Frag) (te : TE) : TE := fun σ H Q => te σ H fun v H1 => ∃ (a : Addr) (xs : List V), v = .ref a ∧ SqL K H1 a xs ∧ ∀ q, H1 q = none → Q (.ref q) (upd H1 q (.lst xs.reverse))
theorem pe_lstRev {p2 pos2 : Pos} (hc : X.calm = true) (hg : Gl X "list") (hm : X.mg "list" = none) (hg2 : Gl X "reversed") (hm2 : X.mg "reversed" = none) (he : PE X e te)
    (hs : starEach [e] X.env = (false, eval e X.env) :: starEach [] X.env)
    (hs2 : starEach [.Call (.Name "reversed" p2) [e] [] pos2] X.env = (false, eval (.Call (.Name "reversed" p2) [e] [] pos2) X.env) :: starEach [] X.env) :
    PE X (.Call (.Name "list" p) [.Call (.Name "reversed" p2) [e] [] pos2] [] pos) (tLstRev X.K te) := by
  refine ⟨fun pins s σ H Q I h => ?_⟩
  refine Call_ (ld_blt I hg hm boot_list (PyProof.Rows.callWith_type1 (args_cons (Call_ (ld_blt I hg2 hm2 PyProof.Rows.boot_reversed (PyProof.Rows.callWith_type1 (args_cons (thn (he.run pins s σ H _ I h) fun u s1 ⟨v, H1, I1, r1, q1⟩ => args_nil ?_) hs) hs rfl))) hs2) hs2 rfl))
  obtain ⟨a, xs, ev, hq, q⟩ := q1
  subst ev
  obtain rfl : u = Value.ref a := r1
  obtain ⟨its, rv, p', hz⟩ := I1.list hq
  refine call_reversed_list p'.isList (args_nil ?_)
  have k0 : ∀ b o, s1.heap.get? b = some o → (s1.heap.push (revObj a ((its.toArray.size : Int) - 1))).get? b = some o := fun b o e => Heap.get?_push_of_some _ e
  have I2 : L2.Inv X pins σ H1 { s1 with heap := s1.heap.push (revObj a ((its.toArray.size : Int) - 1)) } := I1.kept (t' := s1.toks) k0
  obtain ⟨f0, f1, f2, f3, f4, f5⟩ := I1.fpOk (H' := H1) (b := s1.heap.objs.size) (Nat.le_refl _) (I1.hok.fresh (Nat.le_refl _))
  have hl := p'.isList
  have hne : a ≠ s1.heap.objs.size := let ⟨_, ho, _⟩ := hl; Nat.ne_of_lt (Heap.lt_size ho)
  have hn : its.toArray.size ≤ sizeLine := by rw [List.size_toArray, ← rv.length]; exact hz
  have hne2 : s1.heap.objs.size ≠ s1.heap.objs.size + 1 := Nat.ne_of_lt (Nat.lt_succ_self _)
  refine list_of_rev (s := { s1 with heap := s1.heap.push (revObj a ((its.toArray.size : Int) - 1)) }) (I1.ok.hd hc) ⟨_, Heap.get?_push_size _ rfl, rfl, rfl⟩ (hl.push _) hne hn fun h' tk acc c hk hS hi => ?_
  have sz : (s1.heap.push (revObj a ((its.toArray.size : Int) - 1))).objs.size = s1.heap.objs.size + 1 := Heap.size_push ..
  rw [sz] at hS ⊢
  have up : ∀ b o, s1.heap.get? b = some o → h'.get? b = some o := fun b o e => hk b o (Nat.ne_of_lt (Heap.lt_size e)) (k0 b o e)
  refine ⟨.ref (s1.heap.objs.size + 1), upd H1 (s1.heap.objs.size + 1) (.lst xs.reverse), I1.laid (t' := tk) up (Nat.le_succ _) (show ObjOk X.prog X.w _ _ _ (.lst xs.reverse) from ⟨by rw [List.length_reverse]; exact hz, acc.toList, c, RT.vals_rev rv hi, ?_⟩), rfl, q _ (I1.hok.fresh (Nat.le_succ _))⟩
  rw [Array.toArray_toList]
  exact hS
theorem dps_rev {K : PySem.W.Frag} {H : Hp} : ∀ {vs : List V} {ds : List D}, DtAll K H vs ds → DtAll K H vs.reverse ds.reverse
  | _, [], h => by cases h; exact .nil
  | _, _ :: _, h => by
    cases h with
    | cons h1 h2 => rw [List.reverse_cons, List.reverse_cons]; exact dps_app (dps_rev h2) (dps_one h1)
def wLRev (wa : We) : Wl := fun s Q R => wa s (fun d => match d with
  | .list ds => Q ds.reverse
  | _ => False) R
theorem fn_listRev {p2 pos2 : Pos} (hc : X.calm = true) (hm : X.mg "list" = none) (hm2 : X.mg "reversed" = none) (he : FB X L W e te we) (hg : Gl X "list" := by rfl) (hg2 : Gl X "reversed" := by rfl)
    (hs : starEach [e] X.env = (false, eval e X.env) :: starEach [] X.env := by rfl)
    (hs2 : starEach [.Call (.Name "reversed" p2) [e] [] pos2] X.env = (false, eval (.Call (.Name "reversed" p2) [e] [] pos2) X.env) :: starEach [] X.env := by rfl) :
    FN X L W (.Call (.Name "list" p) [.Call (.Name "reversed" p2) [e] [] pos2] [] pos) (tLstRev X.K te) (wLRev we) := by
  refine ⟨pe_lstRev hc hg hm hg2 hm2 he.pe hs hs2, fun b F s σ H Q R k I h hx kk => ?_⟩
  refine he.snd b F s σ H _ R _ I h hx fun F1 d v H1 I1 m1 k1 r1 q => ?_
  split at q
  · have lay : ∀ {vs : List V} {ds : List D}, DtAll X.K F1 vs ds → Q ds.reverse → ∀ z, H1 z = none → k (.ref z) (upd H1 z (.lst vs.reverse)) := fun {vs ds} r q z hz =>
      kk F1 ds.reverse z vs.reverse _ (I1.lay hz) m1 (k1.trans (Kp.of (same_upd hz))) ⟨I1.live z hz, I1.dr_some hz, I1.f_none hz, fun i y => I1.ow_some hz i y⟩ upd_same (dps_rev r) q
    rcases r1 with r1 | ⟨a, vs, ds, rfl, e2, e3, e4, e5⟩
    · cases r1 with
      | lst h1 h2 => exact ⟨_, _, rfl, I1.sub.seq h1, lay h2 q⟩
    · cases e2
      exact ⟨_, _, rfl, .inl (.inl e4), lay e5 q⟩
  · exact q.elim
/-! ### list(x), tuple(x) of a list or a tuple -/
theorem fresh_at {b : Beg} {F : Hp} {s : Sl} {σ : L2.St} {H : Hp} {K : PySem.W.Frag} (I : Rel K L b F s σ H) {z : Addr} (hz : H z = none) : Fresh b F s σ z := ⟨I.live z hz, I.dr_some hz, I.f_none hz, fun i y => I.ow_some hz i y⟩
abbrev rListA (K : PySem.W.Frag) : List V → Hp → VK → Prop := fun xs H Q => ∃ p ys, xs = [.ref p] ∧ (SqL K H p ys ∨ SqT K H p ys) ∧ ∀ l, H l = none → Q (.ref l) (upd H l (.lst ys))
def wListA (wa : We) : Wl := fun s Q R => wa s (fun d => match d with
  | .list ds => Q ds
  | .tuple ds => Q ds
  | _ => False) R
theorem fn_list (hm : X.mg "list" = none) (he : FB X L W e te we) (hg : Gl X "list" := by rfl) (hs : starEach [e] X.env = (false, eval e X.env) :: starEach [] X.env := by rfl) : FN X L W (.Call (.Name "list" p) [e] [] pos) (tCB (rListA X.K) (tCons te tNil)) (wListA we) := by
  refine ⟨pe_callTy call_list_of hg hm boot_list (pa_cons he.pe pa_nil hs) (by decide) (by decide) hs rfl, fun b F s σ H Q R k I h hx kk => ?_⟩
  refine he.snd b F s σ H _ R _ I h hx fun F1 d v H1 I1 m1 k1 r1 q => ?_
  have lay : ∀ {vs : List V} {ds : List D}, DtAll X.K F1 vs ds → Q ds → ∀ z, H1 z = none → k (.ref z) (upd H1 z (.lst vs)) := fun {vs ds} r q z hz =>
    kk F1 ds z vs _ (I1.lay hz) m1 (k1.trans (Kp.of (same_upd hz))) (fresh_at I1 hz) upd_same r q
  rcases r1 with r1 | ⟨a, vs, ds, rfl, rfl, e3, e4, e5⟩
  · cases r1 with
    | lst h1 h2 => exact ⟨_, _, rfl, .inl (I1.sub.seq h1), lay h2 q⟩
    | tup h1 h2 => exact ⟨_, _, rfl, .inr (same_sqT I1.sub h1), lay h2 q⟩
    | _ => exact q.elim
  · exact ⟨_, _, rfl, .inl (.inl (.inl e4)), lay e5 q⟩
abbrev rTupA (K : PySem.W.Frag) : List V → Hp → VK → Prop := fun xs H Q => ∃ p ys, xs = [.ref p] ∧ ((SqL K H p ys ∧ ∀ l, H l = none → Q (.ref l) (upd H l (.tup ys))) ∨ (SqT K H p ys ∧ Q (.ref p) H))
def dTupA : D → (D → Prop) → Prop := fun d Q => match d with
  | .list ds => Q (.tuple ds)
  | .tuple ds => Q (.tuple ds)
  | _ => False
theorem cal_tuple : CalB X L (.type "tuple") (rTupA X.K) dTupA := by
  refine ⟨call_tuple_of, fun b F s σ H v d Q k I h q kk => ?_⟩
  have lay : ∀ {vs : List V} {ds : List D}, DtAll X.K F vs ds → Q (.tuple ds) → ∀ z, H z = none → k (.ref z) (upd H z (.tup vs)) := fun {vs ds} r q z hz =>
    kk _ _ _ _ (I.new1 hz (fun ps y => by cases y)) (same_upd (I.f_none hz)) (Kp.of (same_upd hz)) (.tup (.inl (.inl upd_same)) (dps_mono (same_upd (I.f_none hz)) r)) q
  rcases h with h | ⟨a, vs, ds, rfl, rfl, e3, e4, e5⟩
  · cases h with
    | lst h1 h2 => exact ⟨_, _, rfl, .inl ⟨I.sub.seq h1, lay h2 q⟩⟩
    | tup h1 h2 => exact ⟨_, _, rfl, .inr ⟨same_sqT I.sub h1, kk F _ _ H I (Same.refl F) Kp.refl (.tup h1 h2) q⟩⟩
    | _ => exact q.elim
  · exact ⟨_, _, rfl, .inl ⟨.inl (.inl e4), lay e5 q⟩⟩
end
section
theorem cx_none {P : Program} : ∀ (w : World) (H : Hp) (s : Shared) (e : Value) (s' : Shared), L2N.CX P w [] H s (fun _ _ _ => False) e s' → False := fun _ _ _ _ _ h => by
  obtain ⟨_, _, _, _, _, _, _, _, _, _, _, _, z⟩ := h
  exact z
theorem fnok_false {P : Program} {w : World} {K : PySem.W.Frag} {mg : Str → Option Value} {base : Heap} {k : Nat} {f : Addr} {fd : FuncData} {ps : List Str} {L : Lw} : FnOk P w K mg base (L2N.CX P w) k f fd ps (Spf K L fun _ _ _ => False) :=
  ⟨fun vs H Q E ⟨_, _, _, _, _, _, _, z, _⟩ => z.elim, fun A outer s H args us vs Q E _ _ _ _ ⟨_, _, _, _, _, _, _, z, _⟩ => z.elim⟩
end
/-! ### the readings unfold where the slots are known -/
section
variable {c : Cel} {s : Sl} {E : En} {Q : D → Prop} {R : Value → Prop}
theorem u_seq {w w' : Ws} : wSeq w w' (c :: s) E = w (c :: s) { E with nx := fun s' => w' s' E } := rfl
theorem u_next : wNext (c :: s) E = E.nx (c :: s) := rfl
theorem u_drop {wa : We} : wDrop wa (c :: s) E = wa (c :: s) (fun _ => E.nx (c :: s)) E.ex := rfl
theorem u_ret {wa : We} : wRet wa (c :: s) E = wa (c :: s) E.rt E.ex := rfl
theorem u_retO {wl : Wl} : wRetO wl (c :: s) E = wl (c :: s) E.rn E.ex := rfl
theorem u_ifS {v : Wt} {w w' : Ws} : wIfS v w w' (c :: s) E = v (c :: s) (fun b => cond b (w (c :: s) E) (w' (c :: s) E)) E.ex := rfl
theorem u_asg {wa : We} {g : Wg} : wAsg wa g (c :: s) E = wa (c :: s) (fun d => g d (c :: s) E.nx) E.ex := rfl
theorem u_setO {i : Nat} {wl : Wl} : wSetO i wl (c :: s) E = wl (c :: s) (fun ds => E.nx ((c :: s).set i (.ow ds))) E.ex := rfl
theorem u_par {i j : Nat} {wl : Wl} : wPar i j wl (c :: s) E = wl (c :: s) (fun ds => match ds with | [d, e] => E.nx (((c :: s).set i (.fz d)).set j (.fz e)) | _ => False) E.ex := rfl
theorem u_par3 {i j l : Nat} {wl : Wl} : wPar3 i j l wl (c :: s) E = wl (c :: s) (fun ds => match ds with | [d, e, f] => E.nx ((((c :: s).set i (.fz d)).set j (.fz e)).set l (.fz f)) | _ => False) E.ex := rfl
theorem u_aug {i : Nat} {C : Int → Int → Prop} {f : Int → Int → Int} {wa : We} : wAug i C f wa (c :: s) E = (match (c :: s)[i]? with | some (.fz (.int n)) => wa (c :: s) (fun d => match d with | .int m => C n m ∧ E.nx ((c :: s).set i (.fz (.int (f n m)))) | _ => False) E.ex | _ => False) := rfl
theorem u_for {wi : Wl} {g : Wg} {w : Ws} : wFor wi g w (c :: s) E = wi (c :: s) (fun ds => wForL g w ds (c :: s) E) E.ex := rfl
theorem u_app {i : Nat} {wa : We} : wApp i wa (c :: s) E = (match (c :: s)[i]? with | some (.ow ds) => wa (c :: s) (fun d => ds.length < sizeLine ∧ E.nx ((c :: s).set i (.ow (ds ++ [d])))) E.ex | _ => False) := rfl
theorem u_fix {i : Nat} : Sl.fix (c :: s) i = (match (c :: s)[i]? with | some (.ow ds) => (c :: s).set i (.fz (.list ds)) | _ => c :: s) := rfl
theorem u_gname {i : Nat} {d : D} {Q : Sl → Prop} : wgName i d (c :: s) Q = Q ((c :: s).set i (.fz d)) := rfl
end
end FL

/-! FL10: plain facts that the readings ask for. -/
namespace FL
open PySem PySem.Spec PyProof.Rows L2
theorem rng_get {lo : Int} {n i : Nat} {d : D} (h : (rngD lo n)[i]? = some d) : d = .int (lo + i) ∧ i < n := by
  unfold rngD at h
  rw [List.getElem?_map] at h
  cases e : (List.range n)[i]? with
  | none => rw [e] at h; cases h
  | some j =>
    rw [e] at h; cases h
    have := List.getElem?_eq_some_iff.mp e
    obtain ⟨h1, h2⟩ := this
    rw [List.length_range] at h1
    rw [List.getElem_range] at h2
    subst h2
    exact ⟨rfl, h1⟩
theorem rng_get0 {n i : Nat} {d : D} (h : (rngD 0 n)[i]? = some d) : d = .int i ∧ i < n := by
  have := rng_get h
  rw [Int.zero_add] at this
  exact this
theorem rng_len {lo : Int} {n : Nat} : (rngD lo n).length = n := by simp [rngD]
theorem snoc_int {ms : List Int} {n : Int} : ms.map PyData.int ++ [.int n] = (ms ++ [n]).map .int := by simp
theorem ix_nat {ds : List D} {j : Nat} {Q : D → Prop} {d : D} (hj : ds[j]? = some d) (hq : Q d) : ∃ d, atI ds (j : Int) = some d ∧ Q d := ⟨d, atI_nat hj, hq⟩
theorem ix_int {ds : List D} {i : Int} {Q : D → Prop} {d : D} (h0 : 0 ≤ i) (hj : ds[i.toNat]? = some d) (hq : Q d) : ∃ d, atI ds i = some d ∧ Q d :=
  ⟨d, by have := atI_nat hj; rwa [Int.toNat_of_nonneg h0] at this, hq⟩
theorem ix_last {ds : List D} {Q : D → Prop} {d : D} (hj : ds.getLast? = some d) (hq : Q d) : ∃ d, atI ds (-1) = some d ∧ Q d := by
  obtain ⟨ys, rfl⟩ := List.getLast?_eq_some_iff.mp hj
  exact ⟨d, atI_last _ _, hq⟩
theorem ix_two {a b v : Int} {Q : D → Prop} (h0 : 0 ≤ v) (h1 : v < 2) (h : ∀ c : Int, c = a ∨ c = b → Q (.int c)) : ∃ d, atI [PyData.int a, .int b] v = some d ∧ Q d := by
  rcases (show v = 0 ∨ v = 1 by omega) with rfl | rfl
  · exact ⟨_, rfl, h a (.inl rfl)⟩
  · exact ⟨_, rfl, h b (.inr rfl)⟩
theorem rg_len {n : Nat} (h : n ≤ sizeLine) : RgI (n : Int) := by
  have : sizeLine ≤ 2 ^ 61 := by decide
  exact ⟨by omega, by omega⟩
theorem cond_dec {p : Prop} [Decidable p] {A B : Prop} : cond (decide p) A B = ((p → A) ∧ (¬ p → B)) := by
  by_cases h : p <;> simp [h]
theorem cond_not {b : Bool} {A B : Prop} : cond (!b) A B = cond b B A := by cases b <;> rfl
theorem l_map1 {α β : Type} {f : α → β} {a : α} {l : List α} : List.map f (a :: l) = f a :: List.map f l := rfl
theorem l_map0 {α β : Type} {f : α → β} : List.map f [] = [] := rfl
theorem b_nt : (!true) = false := rfl
theorem b_nf : (!false) = true := rfl
theorem c_t {A B : Prop} : cond true A B = A := rfl
theorem c_f {A B : Prop} : cond false A B = B := rfl
theorem cond_of {b : Bool} {A B : Prop} (h1 : b = true → A) (h2 : b = false → B) : cond b A B := by
  cases b with
  | true => exact h1 rfl
  | false => exact h2 rfl
theorem cond_t {b : Bool} {A B : Prop} (e : b = true) (h : A) : cond b A B := by subst e; exact h
theorem cond_f {b : Bool} {A B : Prop} (e : b = false) (h : B) : cond b A B := by subst e; exact h
theorem mem_rng {n : Nat} {d : D} (h : d ∈ rngD 0 n) : ∃ k : Nat, k < n ∧ d = .int (k : Int) := by
  obtain ⟨i, hi⟩ := List.getElem?_of_mem h
  obtain ⟨e, hk⟩ := rng_get0 hi
  exact ⟨i, hk, e⟩
theorem ix0 {x : D} {xs : List D} {Q : D → Prop} : (∃ d, atI (x :: xs) 0 = some d ∧ Q d) = Q x := propext ⟨fun ⟨d, e, q⟩ => by
  rw [show atI (x :: xs) 0 = some x from atI_nat (j := 0) rfl] at e; cases e; exact q, fun q => ⟨x, atI_nat (j := 0) rfl, q⟩⟩
theorem ix1 {x y : D} {xs : List D} {Q : D → Prop} : (∃ d, atI (x :: y :: xs) 1 = some d ∧ Q d) = Q y := propext ⟨fun ⟨d, e, q⟩ => by
  rw [show atI (x :: y :: xs) 1 = some y from atI_nat (j := 1) rfl] at e; cases e; exact q, fun q => ⟨y, atI_nat (j := 1) rfl, q⟩⟩
theorem ix2 {x y z : D} {xs : List D} {Q : D → Prop} : (∃ d, atI (x :: y :: z :: xs) 2 = some d ∧ Q d) = Q z := propext ⟨fun ⟨d, e, q⟩ => by
  rw [show atI (x :: y :: z :: xs) 2 = some z from atI_nat (j := 2) rfl] at e; cases e; exact q, fun q => ⟨z, atI_nat (j := 2) rfl, q⟩⟩
theorem ix3 {x y z u : D} {xs : List D} {Q : D → Prop} : (∃ d, atI (x :: y :: z :: u :: xs) 3 = some d ∧ Q d) = Q u := propext ⟨fun ⟨d, e, q⟩ => by
  rw [show atI (x :: y :: z :: u :: xs) 3 = some u from atI_nat (j := 3) rfl] at e; cases e; exact q, fun q => ⟨u, atI_nat (j := 3) rfl, q⟩⟩
theorem ix4 {x y z u v : D} {xs : List D} {Q : D → Prop} : (∃ d, atI (x :: y :: z :: u :: v :: xs) 4 = some d ∧ Q d) = Q v := propext ⟨fun ⟨d, e, q⟩ => by
  rw [show atI (x :: y :: z :: u :: v :: xs) 4 = some v from atI_nat (j := 4) rfl] at e; cases e; exact q, fun q => ⟨v, atI_nat (j := 4) rfl, q⟩⟩
/-! == -/
section
variable {a b : Int} {x y : Str} {p q : Bool}
theorem ok_ii : EqOk (.int a) (.int b) = True := eq_true (.inl rfl)
theorem ok_bb : EqOk (.bool p) (.bool q) = True := eq_true (.inl rfl)
theorem ok_ss : EqOk (.str x) (.str y) = True := eq_true (.inl rfl)
theorem ok_nn : EqOk .none .none = True := eq_true (.inl rfl)
theorem ok_ni : EqOk .none (.int a) = True := eq_true (.inl rfl)
theorem ok_in : EqOk (.int a) .none = True := eq_true (.inl rfl)
theorem ok_nb : EqOk .none (.bool p) = True := eq_true (.inl rfl)
theorem ok_bn : EqOk (.bool p) .none = True := eq_true (.inl rfl)
theorem ok_ns : EqOk .none (.str x) = True := eq_true (.inl rfl)
theorem ok_sn : EqOk (.str x) .none = True := eq_true (.inl rfl)
theorem ok_is : EqOk (.int a) (.str x) = True := eq_true (.inl rfl)
theorem ok_si : EqOk (.str x) (.int a) = True := eq_true (.inl rfl)
theorem ok_bs : EqOk (.bool p) (.str x) = True := eq_true (.inl rfl)
theorem ok_sb : EqOk (.str x) (.bool p) = True := eq_true (.inl rfl)
theorem ev_ii : PyData.eqv (.int a) (.int b) = decide (a = b) := by rw [PyData.eqv]; rfl
theorem ev_bb : PyData.eqv (.bool p) (.bool q) = decide (p = q) := by rw [PyData.eqv]; cases p <;> cases q <;> rfl
theorem ev_ss : PyData.eqv (.str x) (.str y) = decide (x = y) := by rw [PyData.eqv]; rfl
theorem ev_nn : PyData.eqv .none .none = true := by rw [PyData.eqv]
theorem ev_ni : PyData.eqv .none (.int a) = false := by simp [PyData.eqv]
theorem ev_in : PyData.eqv (.int a) .none = false := by simp [PyData.eqv]
theorem ev_nb : PyData.eqv .none (.bool p) = false := by simp [PyData.eqv]
theorem ev_bn : PyData.eqv (.bool p) .none = false := by simp [PyData.eqv]
theorem ev_ns : PyData.eqv .none (.str x) = false := by simp [PyData.eqv]
theorem ev_sn : PyData.eqv (.str x) .none = false := by simp [PyData.eqv]
theorem ev_is : PyData.eqv (.int a) (.str x) = false := by simp [PyData.eqv]
theorem ev_si : PyData.eqv (.str x) (.int a) = false := by simp [PyData.eqv]
theorem ev_bs : PyData.eqv (.bool p) (.str x) = false := by simp [PyData.eqv]
theorem ev_sb : PyData.eqv (.str x) (.bool p) = false := by simp [PyData.eqv]
end
end FL

/-! FL11: list comprehensions by data. -/
namespace FL
open PySem PySem.Spec PyProof.Rows L2
/-- slots forgotten -/
def wipeS (s : Sl) : List Nat → Sl
  | [] => s
  | v :: vs => (wipeS s vs).set v .no
/-- own lists only looked at -/
def lkC : Cel → Cel
  | .ow ds => .lk ds
  | c => c
def lkS (s : Sl) : Sl := s.map lkC
section
variable {K : PySem.W.Frag} {L : Lw} {b : Beg} {F F' : Hp} {s : Sl} {σ : L2.St} {H H' : Hp}
theorem Rel.wipe (R : Rel K L b F s σ H) : ∀ vs : List Nat, Rel K L b F (wipeS s vs) (L2.wipe σ vs) H
  | [] => R
  | v :: vs => (Rel.wipe R vs).drop1
/-- a block begins: a ground of its own, own lists only looked at -/
theorem Rel.inner (R : Rel K L b F s σ H) : Rel K L ⟨H, F, b.dr⟩ F (lkS s) σ H :=
  { R.toGrd.enter with
    len := by unfold lkS; rw [List.length_map]; exact R.len
    slot := fun i c e => by
      unfold lkS at e
      rw [List.getElem?_map] at e
      cases q : s[i]? with
      | none => rw [q] at e; cases e
      | some u =>
        rw [q] at e; cases e
        have x := R.slot i u q
        cases u with
        | no => trivial
        | fz d => exact x
        | dr => exact x
        | px _ => exact x
        | lk ds =>
          obtain ⟨a, vs, e, h0, hd, hh, hs⟩ := x
          exact ⟨a, vs, e, by show H a ≠ none; rw [hh]; simp, hd, hh, hs⟩
        | ow ds =>
          obtain ⟨a, vs, e, h0, hd, hf, hh, hs⟩ := x
          exact ⟨a, vs, e, by show H a ≠ none; rw [hh]; simp, hd, hh, hs⟩
    apart := fun i j a n h1 => by
      exfalso
      unfold lkS at h1
      rw [List.getElem?_map] at h1
      cases q : s[i]? with
      | none => rw [q] at h1; exact h1
      | some u => rw [q] at h1; cases u <;> exact h1 }
/-- an object that is told nowhere is changed -/
theorem Rel.poke {p : Addr} {o : HO} {vs : List V} (R : Rel K L b F s σ H) (h0 : b.H0 p = none) (hd : b.dr ≠ some p) (hf : F p = none) (hn : ∀ (i : Nat), isOw s[i]? → σ[i]? ≠ some (some (.ref p)))
    (hp : H p = some (.lst vs)) : Rel K L b F s σ (upd H p o) :=
  { sub := fun a x h => by
      have z : a ≠ p := fun z => by subst z; rw [hf] at h; cases h
      rw [upd_ne z]; exact R.sub a x h
    old := R.old
    new := R.new
    keep := fun a x h d t => by
      have z : a ≠ p := fun z => by subst z; rw [h0] at h; cases h
      rw [upd_ne z]; exact R.keep a x h d t
    live := fun a h => R.live a (by
      by_cases z : a = p
      · subst z; rw [upd_same] at h; cases h
      · rw [upd_ne z] at h; exact h)
    drw := fun a h => by
      have z : a ≠ p := fun z => hd (by rw [← z]; exact h)
      obtain ⟨h1, us, ds, h2, h3⟩ := R.drw a h
      exact ⟨h1, us, ds, by rw [upd_ne z]; exact h2, h3⟩
    tab := fun P h => by
      obtain ⟨ps, e, t⟩ := R.tab P h
      have z : P ≠ p := fun z => by subst z; rw [hp] at e; cases e
      exact ⟨ps, by rw [upd_ne z]; exact e, t⟩
    ntb := R.ntb
    len := R.len
    slot := fun i c e => by
      have x := R.slot i c e
      cases c with
      | no => trivial
      | fz d => exact x
      | dr => exact x
      | px _ => exact x
      | lk ds =>
        obtain ⟨a, us, e1, g0, gd, gh, gs⟩ := x
        exact ⟨a, us, e1, g0, gd, by rw [upd_ne (fun z => g0 (by rw [z]; exact h0))]; exact gh, gs⟩
      | ow ds =>
        obtain ⟨a, us, e1, g0, gd, gf, gh, gs⟩ := x
        have z : a ≠ p := fun z => by
          have hi : i < σ.length := by rw [R.len]; exact (List.getElem?_eq_some_iff.mp e).1
          rw [List.getD_eq_getElem?_getD, List.getElem?_eq_getElem hi] at e1
          exact hn i (by rw [e]; trivial) (by rw [List.getElem?_eq_getElem hi, ← z]; exact congrArg some e1)
        exact ⟨a, us, e1, g0, gd, gf, by rw [upd_ne z]; exact gh, gs⟩
    apart := R.apart }
theorem wipeS_ow {vs : List Nat} {i : Nat} (h : isOw (wipeS s vs)[i]?) : isOw s[i]? ∧ i ∉ vs := by
  induction vs with
  | nil => exact ⟨h, by simp⟩
  | cons v vs ih =>
    unfold wipeS at h
    rw [List.getElem?_set] at h
    split at h
    · split at h <;> exact h.elim
    · rename_i z
      exact ⟨(ih h).1, by simp only [List.mem_cons, not_or]; exact ⟨fun e => z e.symm, (ih h).2⟩⟩
end
section
variable (X : Cx) (L : Lw) (W : WX)
/-- a target that only writes the slots vs -/
structure FGc (vs : List Nat) (tg : Expr) (g : TG) (w : Wg) : Prop extends FG X L tg g w where
  only : ∀ v σ H k k', g v σ H k → (∀ σ' H', L2.wipe σ' vs = L2.wipe σ vs → k σ' H' → k' σ' H') → g v σ H k'
structure FGcs (vs : List Nat) (tgs : List Expr) (g : TGs) (w : List D → Sl → (Sl → Prop) → Prop) : Prop extends FGs X L tgs g w where
  only : ∀ us σ H k k', g us σ H k → (∀ σ' H', L2.wipe σ' vs = L2.wipe σ vs → k σ' H' → k' σ' H') → g us σ H k'
structure FTs (es : List Expr) (t : TT) (w : Wt) : Prop where
  pe : PTs X es t
  snd : SndT X.K L W t w
end
section
variable {X : Cx} {L : Lw} {W : WX} {pos p : Pos} {vs : List Nat} {tg e : Expr} {tgs : List Expr} {g : TG} {gs : TGs} {wg : Wg} {wgs : List D → Sl → (Sl → Prop) → Prop} {tA : TT} {vA : Wt}
theorem wipe_set {σ : L2.St} {i : Nat} {x : Option V} : ∀ {vs : List Nat}, i ∈ vs → L2.wipe (σ.set i x) vs = L2.wipe σ vs
  | [], h => by cases h
  | v :: vs, h => by
    unfold L2.wipe
    rcases List.mem_cons.mp h with rfl | h
    · by_cases q : i ∈ vs
      · rw [wipe_set q]
      · have e : ∀ us : List Nat, i ∉ us → L2.wipe (σ.set i x) us = (L2.wipe σ us).set i x := by
          intro us
          induction us with
          | nil => intro _; rfl
          | cons u us ih =>
            intro hu
            rw [List.mem_cons, not_or] at hu
            unfold L2.wipe
            rw [ih hu.2, List.set_comm _ _ hu.1]
        rw [e vs q, List.set_set]
    · rw [wipe_set h]
theorem wipe_idem {σ : L2.St} {vs : List Nat} : ∀ us : List Nat, (∀ u ∈ us, u ∈ vs) → L2.wipe (L2.wipe σ us) vs = L2.wipe σ vs
  | [], _ => rfl
  | u :: us, h => by
    show L2.wipe ((L2.wipe σ us).set u none) vs = _
    rw [wipe_set (h u List.mem_cons_self)]
    exact wipe_idem us fun w z => h w (List.mem_cons_of_mem _ z)
theorem fc_name {i : Nat} {x : Str} (hN : X.N.Nodup) (hv : i ∈ vs) (hi : X.N[i]? = some x := by rfl) (hx : Loc X.env.scope x := by first | exact Or.inl rfl | exact Or.inr rfl) (hf : X.fn x = true ∨ X.env.scope.names.lookup x = some .local := by first | exact .inl rfl | exact .inr rfl | assumption) : FGc X L vs (.Name x pos) (gName i) (wgName i) :=
  { fg_name hN hi hx hf with only := fun v σ H k k' h q => q _ _ (wipe_set hv) h }
theorem fcs_nil : FGcs X L vs [] gNil wgNil := { fgs_nil with only := fun us σ H k k' ⟨e, h⟩ q => ⟨e, q _ _ rfl h⟩ }
theorem fcs_cons (h1 : FGc X L vs tg g wg) (h2 : FGcs X L vs tgs gs wgs) (he : (assignEach (tg :: tgs) X.env).map (·.2) = assign tg X.env :: (assignEach tgs X.env).map (·.2) := by rfl) : FGcs X L vs (tg :: tgs) (gCons g gs) (wgCons wg wgs) :=
  { fgs_cons h1.toFG h2.toFGs he with only := fun us σ H k k' ⟨v, r, e, h⟩ q => ⟨v, r, e, h1.only v σ H _ _ h fun σ1 H1 e1 h1 => h2.only r σ1 H1 k k' h1 fun σ2 H2 e2 => q σ2 H2 (e2.trans e1)⟩ }
theorem fc_tup {k n : Nat} (hc : X.calm = true) (h : FGcs X L vs tgs gs wgs) (hn : (assignEach tgs X.env).length = n := by rfl) (hst : (assignEach tgs X.env).findIdx? (·.1) = none := by rfl) : FGc X L vs (.Tuple tgs k pos) (gTup X.K n gs) (wgTup n wgs) :=
  { fg_tup hc h.toFGs hn hst with only := fun v σ H k k' ⟨a, xs, e, h1, h2, h3⟩ q => ⟨a, xs, e, h1, h2, h.only xs σ H k k' h3 q⟩ }
def wYes : Wt := fun _ Q _ => Q true
theorem fts_nil : FTs X L W [] tYes wYes := ⟨pts_nil, fun b F s σ H Q R k I h hx kk => kk F true H I (Same.refl F) Kp.refl h⟩
theorem fts_one (h : FT X L W e tA vA) : FTs X L W [e] tA vA := ⟨pts_one h.pe, h.snd⟩
theorem FE.cast {L : Lw} {W : WX} {t t' : TE} {w : We} (h : FE X L W e t' w) (q : t' = t) : FE X L W e t w := q ▸ h
theorem FTs.cast {L : Lw} {W : WX} {es : List Expr} {t t' : TT} {w : Wt} (h : FTs X L W es t' w) (q : t' = t) : FTs X L W es t w := q ▸ h
theorem FGc.cast {L : Lw} {t t' : TG} {w : Wg} (h : FGc X L vs tg t' w) (q : t' = t) : FGc X L vs tg t w := q ▸ h
/-- what a comprehension's turns build -/
def wLcL (wg : Wg) (wt : Wt) (we : We) (vs : List Nat) (ds : List D) : Sl → (List D → Prop) → Prop := fun s Q => ∃ I : Nat → List D → Prop, I 0 [] ∧
  (∀ i d acc, ds[i]? = some d → I i acc → wg d (wipeS (lkS s) vs) fun s2 => wt s2 (fun c => cond c (we s2 (fun y => acc.length < sizeLine ∧ I (i + 1) (acc ++ [y])) fun _ => False) (I (i + 1) acc)) fun _ => False) ∧
  ∀ acc, I ds.length acc → Q acc
def wLc (wl : Wl) (wg : Wg) (wt : Wt) (we : We) (vs : List Nat) : Wl := fun s Q R => wl s (fun ds => wLcL wg wt we vs ds s Q) R
abbrev WF : WX := fun _ _ _ _ => False
def KpD (b : Beg) (p : Addr) (H H' : Hp) : Prop := ∀ a o, a ≠ p → H a = some o → b.dr ≠ some a → (∀ ps, o ≠ .tbl ps) → H' a = some o
section
variable {iter elt : Expr} {ifs : List Expr} {scope : Scope} {own : List (Str × Nat)} {wi : TI} {tt : TT} {te : TE} {wl : Wl} {wt : Wt} {we : We}
theorem snd_lc (hi : SndI X.K L W wi wl) (hg : ∃ X' tg, FGc X' L vs tg g wg ∧ X'.K = X.K) (ht : SndT X.K L WF tt wt) (he : Snd X.K L WF te we) : SndN X.K L W (tLc wi g tt te vs) (wLc wl wg wt we vs) := by
  obtain ⟨X', tg', hg, hK⟩ := hg
  intro b F s σ H Q R k I h hx kk
  refine hi b F s σ H _ R _ I h hx fun F1 ds J H1 I1 m1 k1 wd q D hD => ?_
  obtain ⟨Iv, i0, ist, ie⟩ := q
  have h0 := I1.live D hD
  have hd := I1.dr_some hD
  have hn : ∀ (i : Nat), isOw s[i]? → σ[i]? ≠ some (some (.ref D)) := fun i y => I1.ow_some hD i y
  refine ⟨fun i m H2 => m = ds.length - i ∧ i ≤ ds.length ∧ ∃ F2 us acc, Rel X.K L b F2 s σ H2 ∧ Same F1 F2 ∧ KpD b D H1 H2 ∧ F2 D = none ∧ H2 D = some (.lst us) ∧ DtAll X.K F2 us acc ∧ Iv i acc,
    ⟨_, rfl, Nat.zero_le _, F1, [], [], I1.lay hD, Same.refl F1, fun a o z e d t => by rw [upd_ne z]; exact e, I1.f_none hD, upd_same, .nil, i0⟩, ?_⟩
  rintro i m H2 ⟨rfl, hle, F2, us, acc, I2, m2, k2, hf, hH, r, iv⟩
  have Ij := I2.inner
  obtain ⟨hgo, hstop, hy⟩ := wd _ F2 _ σ H2 Ij m2 trivial
  by_cases hi : i < ds.length
  · refine .inr ⟨hgo i hi, fun H3 => i + 1 ≤ ds.length ∧ ∃ F3 us acc, Rel X.K L b F3 s σ H3 ∧ Same F1 F3 ∧ KpD b D H1 H3 ∧ F3 D = none ∧ H3 D = some (.lst us) ∧ DtAll X.K F3 us acc ∧ Iv (i + 1) acc,
      fun H3 ⟨z1, z2⟩ => ⟨ds.length - (i + 1), by omega, rfl, z1, z2⟩, fun x H3 hyy => ?_⟩
    obtain ⟨F3, d, e3, I3, m3, k3, r3⟩ := hy i x H3 hi hyy
    have q := ist i d acc e3 iv
    refine hg.only x _ H3 _ _ (hg.snd ⟨H2, F2, b.dr⟩ F3 _ _ H3 x d _ (fun σ' H' => tt σ' H' fun b1 H3 => if b1 = true then te σ' H3 fun y H4 => ∃ acc, H4 D = some (.lst acc) ∧ acc.length < sizeLine ∧ (i + 1 ≤ ds.length ∧ ∃ F3 us acc', Rel X.K L b F3 s σ (upd H4 D (.lst (acc ++ [y]))) ∧ Same F1 F3 ∧ KpD b D H1 (upd H4 D (.lst (acc ++ [y]))) ∧ F3 D = none ∧ (upd H4 D (.lst (acc ++ [y]))) D = some (.lst us) ∧ DtAll X.K F3 us acc' ∧ Iv (i + 1) acc') else (i + 1 ≤ ds.length ∧ ∃ F3 us acc, Rel X.K L b F3 s σ H3 ∧ Same F1 F3 ∧ KpD b D H1 H3 ∧ F3 D = none ∧ H3 D = some (.lst us) ∧ DtAll X.K F3 us acc ∧ Iv (i + 1) acc))
      (by rw [hK]; exact I3.wipe vs) (by rw [hK]; exact r3) q fun F4 s4 σ4 H4 I4 m4 q4 => ?_) fun σ' H' e q => ⟨e.trans (wipe_idem vs fun _ z => z), q⟩
    rw [hK] at I4
    refine ht _ F4 s4 σ4 H4 _ (fun _ => False) _ I4 q4 (fun _ _ _ _ _ z => z.elim) fun F5 c H5 I5 m5 k5 q5 => ?_
    -- back to the ground around
    have back : ∀ {F6 : Hp} {s6 : Sl} {σ6 : L2.St} {H6 : Hp}, Rel X.K L ⟨H2, F2, b.dr⟩ F6 s6 σ6 H6 → Same F2 F6 → Rel X.K L b F6 s σ H6 ∧ KpD b D H1 H6 ∧ F6 D = none ∧ H6 D = some (.lst us) ∧ DtAll X.K F6 us acc := fun {F6 s6 σ6 H6} I6 m6 => by
      have g := I6.toGrd
      refine ⟨I2.back g, fun a o z e d t => g.keep a o (k2 a o z e d t) d t, ?_, g.keep D _ hH hd (fun ps z => by cases z), dps_mono m6 r⟩
      cases z : F6 D with
      | none => rfl
      | some o =>
        rcases g.new D o z with y | y
        · rw [show F2 D = some o from y] at hf; cases hf
        · rw [show H2 D = none from y] at hH; cases hH
    have m25 : Same F2 F5 := m3.trans (m4.trans m5)
    cases c with
    | false =>
      rw [if_neg Bool.false_ne_true]
      obtain ⟨I6, k6, f6, h6, r6⟩ := back I5 m25
      exact ⟨hi, F5, us, acc, I6, m2.trans m25, k6, f6, h6, r6, q5⟩
    | true =>
      rw [if_pos rfl]
      refine he _ F5 s4 σ4 H5 _ (fun _ => False) _ I5 q5 (fun _ _ _ _ _ z => z.elim) fun F6 y v H6 I6 m6 k6 r6 q6 => ?_
      obtain ⟨I7, k7, f7, h7, r7⟩ := back I6 (m25.trans m6)
      refine ⟨us, h7, by rw [dps_len r7]; exact q6.1, hi, F6, _, _, I7.poke h0 hd f7 hn h7, m2.trans (m25.trans m6), fun a o z e d t => by rw [upd_ne z]; exact k7 a o z e d t, f7, upd_same, dps_app r7 (dps_one r6), q6.2⟩
  · have e : i = ds.length := by omega
    subst e
    refine .inl ⟨hstop, kk F2 acc D us H2 I2 (m1.trans m2) (fun a o e d t => k2 a o (fun z => ?_) (k1 a o e d t) d t) ⟨h0, hd, hf, hn⟩ hH r (ie acc iv)⟩
    subst z
    rw [k1 a o e d t] at hD
    cases hD
theorem fn_lc (hc : X.calm = true) (hN : X.N.Nodup) (hi : FI X L W tg iter wi wl) (ok : BlkOk X.N X.env.scope scope own)
    (hg : ∀ (s : Shared) (H : Hp) (C : Addr) (cl : List (Str × Addr)) (fp : List Addr), FGc (X.blk s H scope (compEnvC scope cl C X.env) fp) L (own.map (·.2)) tg g wg) (ht : ∀ (s : Shared) (H : Hp) (C : Addr) (cl : List (Str × Addr)) (fp : List Addr), FTs (X.blk s H scope (compEnvC scope cl C X.env) fp) L WF ifs tt wt)
    (he : ∀ (s : Shared) (H : Hp) (C : Addr) (cl : List (Str × Addr)) (fp : List Addr), FE (X.blk s H scope (compEnvC scope cl C X.env) fp) L WF elt te we) (hs : ∀ x, foldedSetIterable iter X.env x = pure x := by intro _; rfl) :
    FN X L W (.ListComp elt [⟨tg, iter, ifs, 0⟩] scope pos) (tLc wi g tt te (own.map (·.2))) (wLc wl wg wt we (own.map (·.2))) :=
  ⟨pe_lc hc hN hi.pe ok (fun s H C cl fp => (hg s H C cl fp).pe) (fun s H C cl fp => (ht s H C cl fp).pe) (fun s H C cl fp => (he s H C cl fp).pe) hs,
    snd_lc hi.snd ⟨_, _, hg X.s_0 X.H_0 0 [] [], rfl⟩ (ht X.s_0 X.H_0 0 [] []).snd (he X.s_0 X.H_0 0 [] []).snd⟩
/-- name = [..] on one line -/
def wSetL (i : Nat) (wl : Wl) : Ws := fun s E => wl s (fun ds => E.nx (s.set i (.fz (.list ds)))) E.ex
theorem fs_setLcO {i : Nat} {y : Str} {py spos : Pos} (hc : X.calm = true) (hN : X.N.Nodup) (hi : FI X L W tg iter wi wl) (ok : BlkOk X.N X.env.scope scope own)
    (hg : ∀ (s : Shared) (H : Hp) (C : Addr) (cl : List (Str × Addr)) (fp : List Addr), FGc (X.blk s H scope (compEnvC scope cl C X.env) fp) L (own.map (·.2)) tg g wg) (ht : ∀ (s : Shared) (H : Hp) (C : Addr) (cl : List (Str × Addr)) (fp : List Addr), FTs (X.blk s H scope (compEnvC scope cl C X.env) fp) L WF ifs tt wt)
    (he : ∀ (s : Shared) (H : Hp) (C : Addr) (cl : List (Str × Addr)) (fp : List Addr), FE (X.blk s H scope (compEnvC scope cl C X.env) fp) L WF elt te we) (hy : X.N[i]? = some y := by rfl) (hyl : X.env.scope.names.lookup y = some .local := by rfl)
    (hsw : swapsWith (.ListComp elt [⟨tg, iter, ifs, 0⟩] scope pos) (some (.Name y py)) spos.line X.env = pure true := by rfl) (hs : ∀ x, foldedSetIterable iter X.env x = pure x := by intro _; rfl) :
    FS X L W (.Assign [.Name y py] (.ListComp elt [⟨tg, iter, ifs, 0⟩] scope pos) spos) (tAsg (tLc wi g tt te (own.map (·.2))) (gName i)) (wSetO i (wLc wl wg wt we (own.map (·.2)))) := by
  refine ⟨ps_setLc hc hN hy hyl hsw hi.pe ok (fun s H C cl fp => (hg s H C cl fp).pe) (fun s H C cl fp => (ht s H C cl fp).pe) (fun s H C cl fp => (he s H C cl fp).pe) hs, fun b F s σ H E D' I h ok' => ?_⟩
  exact snd_lc hi.snd ⟨_, _, hg X.s_0 X.H_0 0 [] [], rfl⟩ (ht X.s_0 X.H_0 0 [] []).snd (he X.s_0 X.H_0 0 [] []).snd b F s σ H _ E.ex _ I h ok'.exw fun F1 ds q vs H1 I1 m1 k1 fr e1 r1 z => ok'.nx F1 _ _ H1 (I1.putO fr.h0 fr.hd fr.hf fr.hn e1 r1) m1 z
theorem fs_setLc {i : Nat} {y : Str} {py spos : Pos} (hc : X.calm = true) (hN : X.N.Nodup) (hi : FI X L W tg iter wi wl) (ok : BlkOk X.N X.env.scope scope own)
    (hg : ∀ (s : Shared) (H : Hp) (C : Addr) (cl : List (Str × Addr)) (fp : List Addr), FGc (X.blk s H scope (compEnvC scope cl C X.env) fp) L (own.map (·.2)) tg g wg) (ht : ∀ (s : Shared) (H : Hp) (C : Addr) (cl : List (Str × Addr)) (fp : List Addr), FTs (X.blk s H scope (compEnvC scope cl C X.env) fp) L WF ifs tt wt)
    (he : ∀ (s : Shared) (H : Hp) (C : Addr) (cl : List (Str × Addr)) (fp : List Addr), FE (X.blk s H scope (compEnvC scope cl C X.env) fp) L WF elt te we) (hy : X.N[i]? = some y := by rfl) (hyl : X.env.scope.names.lookup y = some .local := by rfl)
    (hsw : swapsWith (.ListComp elt [⟨tg, iter, ifs, 0⟩] scope pos) (some (.Name y py)) spos.line X.env = pure true := by rfl) (hs : ∀ x, foldedSetIterable iter X.env x = pure x := by intro _; rfl) :
    FS X L W (.Assign [.Name y py] (.ListComp elt [⟨tg, iter, ifs, 0⟩] scope pos) spos) (tAsg (tLc wi g tt te (own.map (·.2))) (gName i)) (wSetL i (wLc wl wg wt we (own.map (·.2)))) := by
  refine ⟨ps_setLc hc hN hy hyl hsw hi.pe ok (fun s H C cl fp => (hg s H C cl fp).pe) (fun s H C cl fp => (ht s H C cl fp).pe) (fun s H C cl fp => (he s H C cl fp).pe) hs, fun b F s σ H E D' I h ok' => ?_⟩
  refine snd_lc hi.snd ⟨_, _, hg X.s_0 X.H_0 0 [] [], rfl⟩ (ht X.s_0 X.H_0 0 [] []).snd (he X.s_0 X.H_0 0 [] []).snd b F s σ H _ E.ex _ I h ok'.exw fun F1 ds q vs H1 I1 m1 k1 fr e1 r1 z => ?_
  have I2 := I1.tell fr.h0 fr.hd e1 fr.hf (fun ps z => by cases z) fr.hn
  exact ok'.nx _ _ _ H1 (I2.put (.lst (.inl (.inl upd_same)) (dps_mono (same_upd fr.hf) r1))) (m1.trans (same_upd fr.hf)) z
theorem takes_wf {X : Cx} : L2N.Takes X WF := fun u s' ⟨_, _, _, _, _, _, _, _, _, _, _, _, _, _, _, _, z⟩ => z.elim
end
end
end FL

/-! FL12: all, any of a generator expression: the run of its body under the hand layer's state. -/
namespace FLG
open PySem PySem.Spec PyProof.Rows L2 GenW
/-- the context of a generator expression's body -/
abbrev gbx (X : Cx) (Ag : Around) (s : Shared) (H : Hp) (scope : Scope) (cenv : Env) (fp : List Addr) (pn : List (Addr × Obj)) : Cx :=
  { X with A := Ag, s_0 := s, H_0 := H, env := cenv, outer := X.stack, stack := cenv :: X.stack, ex := fp, fn := fun x => scope.names.lookup x == some .cell, pn := pn, xe := fun _ _ => False }
section
variable {X : Cx} {pins : List (Addr × Obj)} {σ : L2.St} {H : Hp} {s : Shared}
theorem gen_start {scope : Scope} {own : List (Str × Nat)} {fp : List Addr} {Ag : Around} {code : Value} {it : Value} {h' : Heap} {go : Obj} {s2 : Shared} {fo : Obj} (I : Inv X pins σ H s) (ok : BlkOk X.N X.env.scope scope own) (hN : X.N.Nodup) (hcell : ∀ y ∈ scope.names, y.2 ≠ .cell)
    (hfp : ∀ b ∈ fp, FpOk X pins H b ∧ b < s.heap.objs.size) (hd : Ag.handled = none) (hf : Ag.frames = some (genEnv scope (cloFrom X.env.cells scope.names []) s.heap.objs.size code builtinsNs X.env :: X.stack))
    (hn : h'.Ns s.heap.objs.size fun y => if y = ".0" then some it else none) (hs : Heap.SameBut s.heap.objs.size (s.heap.push fo) h') (he : s2.heap = h'.push go) (hos : s2.os = s.os) (hg : AllBare s2.gens) (hgo : ∀ v, go.data ≠ .cell v) (hgf : (h'.push go).get? h'.objs.size = some go) :
    Inv (gbx X Ag s H scope (genEnv scope (cloFrom X.env.cells scope.names []) s.heap.objs.size code builtinsNs X.env) fp [(h'.objs.size, go)]) [] (wipe σ (own.map (·.2))) H s2 := by
  have hfree : ∀ y ∈ scope.names, y.2 = .free → ∃ c, X.env.cells.lookup y.1 = some c := fun y hy e => by
    rcases ok.free y hy e with k | k
    · exact I.ok.has _ (.inl k)
    · exact I.ok.has _ (.inr k)
  generalize hcenv : genEnv scope (cloFrom X.env.cells scope.names []) s.heap.objs.size code builtinsNs X.env = cenv at hf
  have kp : ∀ b o, s.heap.get? b = some o → s2.heap.get? b = some o := fun b o e => by
    rw [he]
    exact Heap.get?_push_of_some _ (hs.extBut b o (Nat.ne_of_lt (Heap.lt_size e)) (Heap.get?_push_of_some _ e))
  have hL : cenv.locals = s.heap.objs.size := by rw [← hcenv]; rfl
  have hcl : cenv.cells = cloFrom X.env.cells scope.names [] := by rw [← hcenv]; rfl
  have hsc : cenv.scope = scope := by rw [← hcenv]; rfl
  have cm : ∀ {y c}, cenv.cells.lookup y = some c → X.env.cells.lookup y = some c ∧ c < s.heap.objs.size := fun {y c} e => by
    rw [hcl] at e
    rcases cloFrom_mem (PySem.mem_of_lookup e) with hm | ⟨h1, rfl⟩
    · cases hm
    · obtain ⟨c, hc⟩ := hfree _ h1 rfl
      rw [hc]
      obtain ⟨w, z⟩ := I.cell _ _ hc
      exact ⟨rfl, z.lt⟩
  have look : ∀ {y}, scope.names.lookup y = some .free → ∃ c, cenv.cells.lookup y = some c ∧ X.env.cells.lookup y = some c := fun {y} hl => by
    have hy : (y, NameKind.free) ∈ scope.names := PySem.mem_of_lookup hl
    obtain ⟨c', e'⟩ := L2.mem_lookup (cloFrom_has (cells := X.env.cells) (acc := []) hy)
    rw [← hcl] at e'
    exact ⟨c', e', (cm e').1⟩
  have nocell : ∀ {y}, scope.names.lookup y ≠ some .cell := fun {y} e => hcell _ (PySem.mem_of_lookup e) rfl
  have sz : h'.objs.size = s.heap.objs.size + 1 := hs.1.trans (Heap.size_push ..)
  have okB : (gbx X Ag s H scope cenv fp [(h'.objs.size, go)]).Ok := by
    refine ⟨I.ok.mod, by show cenv.scope.kind = _; rw [hsc]; exact ok.kind, by show cenv.globals = _; rw [← hcenv]; exact I.ok.glob, by show cenv.builtins = _; rw [← hcenv]; rfl, by show s.heap.objs.size ≤ cenv.locals; rw [hL]; exact Nat.le_refl _,
      fun y z c e1 e2 => I.ok.inj y z c (cm e1).1 (cm e2).1, fun y hy => ?_, fun y c z e => ?_, fun _ => hd, hf, .inr ⟨rfl, ?_⟩, fun b hb => ⟨?_, fun y c e z => ?_⟩, I.bs, Nat.le_trans I.ok.bsz I.sz, fun b o e hb => ?_, fun b hb z => ?_, I.stack, I.stkFree⟩
    · have hy : scope.names.lookup y = some .cell ∨ scope.names.lookup y = some .free := by
        have hy : cenv.scope.names.lookup y = some .cell ∨ cenv.scope.names.lookup y = some .free := hy
        rw [hsc] at hy; exact hy
      rcases hy with hy | hy
      · exact absurd hy nocell
      · obtain ⟨c, h1, _⟩ := look hy
        exact ⟨c, h1⟩
    · have z : (scope.names.lookup y == some NameKind.cell) = true := z
      have z : scope.names.lookup y = some .cell := by simpa using z
      exact absurd z nocell
    · show cenv.frame = some cenv.locals
      rw [← hcenv]; rfl
    · show b ≠ cenv.locals
      rw [hL]; exact Nat.ne_of_lt (hfp b hb).2
    · exact (hfp b hb).1.2.2.2.2.1 y c (cm e).1 z
    · rcases (hfp b hb).1.2.2.2.1 with z | z
      · exact I.ok.noex b o e z
      · exact absurd (Nat.lt_of_lt_of_le (Heap.lt_size e) (Nat.le_trans I.ok.bsz z)) (Nat.lt_irrefl _)
    · rcases List.mem_cons.mp (I.stkSub b z) with z | z
      · exact (hfp b hb).1.2.1 z
      · exact (hfp b hb).1.2.2.1 z
  have young : s.heap.objs.size ≤ h'.objs.size := by omega
  refine ⟨okB, hos, hg, Un.kept kp, ⟨(fun y => if y = (".0" : Str) then some it else none), ?_, fun i y av e1 e2 e3 => ?_⟩, fun y c e => ?_, ?_, fun y c e => ?_, fun p hp => ?_, I.hok.kept kp, by rw [wipe_length]; exact I.len⟩
  · show Heap.Ns _ cenv.locals _
    rw [hL, he]
    exact hn.keeps fun b o e => Heap.get?_push_of_some _ e
  · obtain ⟨e2, hne⟩ := wipe_some e2
    have e3 : Vis scope y := by
      have e3 : Vis cenv.scope y := e3
      rw [hsc] at e3; exact e3
    have hfr : scope.names.lookup y = some .free := by
      rcases e3 with e3 | e3 | e3
      · rcases ok.own _ (PySem.mem_of_lookup e3) (.inl rfl) with e' | e'
        · obtain ⟨p, hp, hpy⟩ := List.mem_map.mp e'
          have e4 := ok.ix p hp
          have : p.1 = y := hpy
          rw [this] at e4
          exact absurd (List.mem_map.mpr ⟨p, hp, nodup_ix hN e4 e1⟩) hne
        · exact absurd (List.mem_of_getElem? e1) e'
      · exact absurd e3 nocell
      · exact e3
    obtain ⟨m, hn', hl⟩ := I.loc
    have hvis : Vis X.env.scope y := (ok.free _ (PySem.mem_of_lookup hfr) rfl).elim (fun k => .inr (.inl k)) (fun k => .inr (.inr k))
    obtain ⟨w, r, q⟩ := hl i y av e1 e2 hvis
    obtain ⟨c, h1, h2⟩ := look hfr
    refine ⟨w, r, .inr ⟨.inr (by show cenv.scope.names.lookup y = _; rw [hsc]; exact hfr), c, h1, ?_⟩⟩
    rcases q with ⟨k, _⟩ | ⟨_, c', e', z⟩
    · have k : X.env.scope.names.lookup y = some .local := k
      rcases ok.free _ (PySem.mem_of_lookup hfr) rfl with k' | k' <;> rw [show X.env.scope.names.lookup y = _ from k'] at k <;> cases k
    · rw [h2] at e'; cases e'
      exact z.keeps kp
  · obtain ⟨w, z⟩ := I.cell y c (cm e).1
    exact ⟨w, z.keeps kp⟩
  · show H cenv.locals = none
    rw [hL]; exact I.hok.fresh (Nat.le_refl _)
  · exact I.freeC y c (cm e).1
  · have hp : p = (h'.objs.size, go) := by simpa using hp
    subst hp
    refine ⟨by rw [he]; exact hgf, I.hok.fresh young, ?_, fun z => ?_, hgo⟩
    · show h'.objs.size ≠ cenv.locals
      rw [hL]; omega
    · rcases List.mem_cons.mp (I.stkSub _ z) with z | z
      · have h1 : X.env.locals < s.heap.objs.size := I.lt
        rw [← z] at h1
        exact Nat.lt_irrefl _ (Nat.lt_of_lt_of_le h1 young)
      · exact I.nofs young z
/-- the machine's own: the generator expression's turn -/
abbrev genX (elt tg iter : Expr) (ifs : List Expr) (scope : Scope) (pos : Pos) : Expr := .GeneratorExp elt [⟨tg, iter, ifs, 0⟩] scope pos
structure GBody (J : It) (g : TG) (tt : TT) (te : TE) (vs : List Nat) (c : Bool) (σ : L2.St) (Q : VK) where
  W : Nat → Nat → Hp → Prop
  turn : ∀ i m H, W i m H → (J.stop i H ∧ Q (.bl (!c)) H) ∨ (J.go i H ∧ ∃ Nx : Hp → Prop, (∀ H', Nx H' → ∃ m', m' < m ∧ W (i + 1) m' H') ∧ ∀ x H', J.yld i H x H' → g x (wipe σ vs) H' fun σ2 H2 => wipe σ2 vs = wipe σ vs ∧ tt σ2 H2 fun b H3 =>
    if b = true then te σ2 H3 fun y H4 => ∃ z, y = .bl z ∧ if z = c then Q (.bl c) H4 else Nx H4 else Nx H3)
/-- its end: the def's state again, the answer for all -/
def GEnd (X : Cx) (pins : List (Addr × Obj)) (σ : L2.St) (c : Bool) (Q : VK) : GenEnd := fun _ _ r s1 => r = .ok .next ∧ ∃ H', Inv X pins σ H' s1 ∧ Q (.bl (!c)) H'
/-- a test told: it ends the walk, or the generator goes on from a state alike -/
def GItem (X : Cx) (pins : List (Addr × Obj)) (σ : L2.St) (c : Bool) (Q : VK) (a : Addr) (gn : Nat) : Protocol := fun _ _ v s1 kap =>
  ∃ z, v = .bool z ∧ s1.heap.IsGen a gn ∧ s1.heap.NoLimit ∧ AllBare s1.gens ∧ if z = c then ∃ H', Inv X pins σ H' s1 ∧ Q (.bl c) H' else ∀ s2 : Shared, s2.heap = s1.heap → s2.os = s1.os → AllBare s2.gens → kap (.send .none) s2
theorem inv_gens {s2 : Shared} (I : Inv X pins σ H s) (hh : s2.heap = s.heap) (hos : s2.os = s.os) (hg : AllBare s2.gens) : Inv X pins σ H s2 :=
  I.call' (ch := []) hos (by rw [hh]; exact Un.kept fun _ _ e => e) (by rw [hh]; exact I.hok) hg fun b z => by simp at z
theorem inv_grown {s2 : Shared} (I : Inv X pins σ H s) (hh : ∀ b o, s.heap.get? b = some o → s2.heap.get? b = some o) (hos : s2.os = s.os) (hg : AllBare s2.gens) : Inv X pins σ H s2 :=
  I.call' (ch := []) hos (Un.kept hh) (I.hok.kept hh) hg fun b z => by simp at z
theorem seg_gen {scope : Scope} {own : List (Str × Nat)} {fp : List Addr} {B : Around} {cenv : Env} {go : Obj} {a it : Addr} {gn : Nat} {elt tg iter : Expr} {ifs : List Expr} {gpos : Pos} {g : TG} {tt : TT} {te : TE} {c : Bool} {Q : VK} {J : It} {tn : Nat → Heap → Prop}
    (hc : X.calm = true) (I : Inv X pins σ H s) (hfp : ∀ b ∈ fp, FpOk X pins H b ∧ b < s.heap.objs.size) (hco : cenv.scope.isCoroutine = false)
    (T : Turn X.prog X.w X.K tg J fp it tn) (D : GBody J g tt te (own.map (·.2)) c σ Q)
    (hgo : ∀ h : Heap, h.get? a = some go → h.IsGen a gn) (hsa : s.heap.objs.size ≤ a)
    (pg : PG (gbx X (B.over (.compLoop (genX elt tg iter ifs scope gpos) 0 (.ref it) .none cenv) []) s H scope cenv fp [(a, go)]) tg g)
    (pt : PTs (gbx X (B.over (.compLoop (genX elt tg iter ifs scope gpos) 0 (.ref it) .none cenv) []) s H scope cenv fp [(a, go)]) ifs tt)
    (pe : PE (gbx X (B.over (.compLoop (genX elt tg iter ifs scope gpos) 0 (.ref it) .none cenv) []) s H scope cenv fp [(a, go)]) elt te) :
    ∀ (n m i : Nat) (s₀ s5 : Shared) (H5 : Hp), m < n → D.W i m H5 → Inv (gbx X (B.over (.compLoop (genX elt tg iter ifs scope gpos) 0 (.ref it) .none cenv) []) s H scope cenv fp [(a, go)]) [] (wipe σ (own.map (·.2))) H5 s5 → tn i s5.heap → (∀ b ∈ fp, H5 b = none) →
      Seg (model X.prog X.w) B (GEnd X pins σ c Q) (GItem X pins σ c Q a gn) n s₀ (.compLoop (genX elt tg iter ifs scope gpos) 0 (.ref it) .none cenv)
        ((model X.prog X.w).den (.compLoop (genX elt tg iter ifs scope gpos) 0 (.ref it) .none cenv)) [] s5 := by
  generalize hA : B.over (.compLoop (genX elt tg iter ifs scope gpos) 0 (.ref it) .none cenv) [] = Ag at pg pt pe
  have stat : ∀ {σ' : L2.St} {H' : Hp} {s' : Shared}, Inv (gbx X Ag s H scope cenv fp [(a, go)]) [] σ' H' s' → (∀ b ∈ fp, H' b = none) → ∀ b ∈ fp, FpOk (gbx X Ag s H scope cenv fp [(a, go)]) [] H' b := fun {σ' H' s'} I' hn b hb =>
    ⟨hn b hb, (I'.ok.exf b hb).1, I'.ok.exfs b hb, .inl hb, fun x c e => (I'.ok.exf b hb).2 x c e, fun p hp => by
      have hp : p = (a, go) := by simpa using hp
      subst hp
      exact fun z => absurd (hfp b hb).2 (Nat.not_lt_of_le (by rw [← show a = b from z]; exact hsa))⟩
  -- back in the def's context
  have back : ∀ {σ' : L2.St} {H' : Hp} {s' : Shared} {pins' : List (Addr × Obj)}, Inv (gbx X Ag s H scope cenv fp [(a, go)]) pins' σ' H' s' → Inv X pins σ H' s' := fun {σ' H' s' pins'} I6 =>
    I.call' (ch := fp) I6.os I6.base I6.hok I6.bare fun b hb => ⟨(hfp b hb).1.2.2.2.1, (hfp b hb).1.2.1, (hfp b hb).1.2.2.2.2.1, (hfp b hb).1.2.2.2.2.2⟩
  intro n
  induction n with
  | zero => intro m i s₀ s5 H5 hm; exact absurd hm (Nat.not_lt_zero _)
  | succ n ihn =>
    intro m
    induction m using Nat.strongRecOn with
    | ind m ihm =>
      intro i s₀ s5 H5 hmn w5 I5 st5 n5
      show Seg _ B _ _ _ s₀ _ ((compTurn (genX elt tg iter ifs scope gpos) 0 (.ref it) .none cenv).onRaise (leaving cenv)) [] s5
      rw [compTurn_gen, Sem.onRaise_eq_wrap]
      refine seg_bind_wrap (wpAny_standAt ?_)
      have hcB : (gbx X Ag s H scope cenv fp [(a, go)]).calm = true := hc
      rcases D.turn i m H5 w5 with ⟨stop, qq⟩ | ⟨go', Nx, hNx, step⟩
      · have td := T.done (gbx X Ag s H scope cenv fp [(a, go)]) rfl rfl rfl hcB i [] s5 _ H5 (fun _ _ => False) I5 (stat I5 n5) st5 stop
        refine seg_bind_wrap ?_
        rw [hA]
        refine thnF td fun r s6 ⟨hr, I6⟩ => ?_
        subst hr
        exact seg_end (.ok .next) ⟨rfl, H5, back I6, qq⟩
      · have ti := T.item (gbx X Ag s H scope cenv fp [(a, go)]) rfl rfl rfl hcB i [] s5 _ H5 (fun _ _ => False) I5 (stat I5 n5) st5 go'
        refine seg_bind_wrap ?_
        rw [hA]
        refine thnF ti fun r s6 ⟨u, hr, h6⟩ => ?_
        subst hr
        refine seg_bind_wrap ?_
        rw [hA]
        refine thnF h6 fun _ s7 ⟨x, H7, I7, r7, y7, st7, n7⟩ => ?_
        have I7' := I7.pinned (stat I7 n7) (T.obj _ _ st7)
        refine seg_bind_wrap ?_
        rw [hA]
        refine thnF (pg.run _ s7 _ H7 x u _ I7' r7 (step x H7 y7)) fun _ s8 ⟨σ8, H8, I8, hw8, q8⟩ => ?_
        refine seg_bind_wrap ?_
        rw [hA]
        refine thnF (pt.run _ s8 σ8 H8 _ I8 q8) fun b s9 ⟨H9, I9, q9⟩ => ?_
        -- the turn's end
        have fin : ∀ {s' : Shared} {H' : Hp}, Inv (gbx X Ag s H scope cenv fp [(a, go)]) ([] ++ pinsAt fp s7.heap) σ8 H' s' → Inv (gbx X Ag s H scope cenv fp [(a, go)]) [] (wipe σ (own.map (·.2))) H' s' ∧ tn (i + 1) s'.heap ∧ ∀ b ∈ fp, H' b = none := fun {s' H'} I' => by
          have pin' : ∀ b ∈ fp, ∀ o, s7.heap.get? b = some o → s'.heap.get? b = some o ∧ H' b = none := fun b hb o e =>
            let z := I'.pin (b, o) (List.mem_append_right _ (List.mem_append_right _ (mem_pinsAt hb e)))
            ⟨z.1, z.2.1⟩
          have hl : (wipe σ (own.map (·.2))).length = σ8.length := by rw [← hw8, wipe_length]
          refine ⟨(I'.unpinned (pins := [])).weak hl (fun j v e => ?_), T.keep _ _ _ st7 fun b hb o e => (pin' b hb o e).1, fun b hb => ?_⟩
          · rw [← hw8] at e
            exact (wipe_some e).1
          · obtain ⟨o, e, _⟩ := T.obj _ _ st7 b hb
            exact (pin' b hb o e).2
        cases b with
        | false =>
          simp only [Bool.false_eq_true, if_false] at q9 ⊢
          obtain ⟨m', hm', w'⟩ := hNx _ q9
          obtain ⟨J1, J2, J3⟩ := fin I9
          exact seg_again rfl (ihm m' hm' (i + 1) s₀ s9 H9 (by omega) w' J1 J2 J3)
        | true =>
          simp only [if_true] at q9 ⊢
          have hy : ∀ v, yieldOut cenv v = yieldValue v := fun v => by simp only [yieldOut, hco, Bool.false_eq_true, if_false]
          simp only [hy]
          rw [Sem.bind_eq_wrap', Sem.bind_eq_wrap', Sem.wrap_wrap, Sem.wrap_wrap]
          refine seg_wrap ?_
          rw [hA]
          refine thnF (pe.run _ s9 σ8 H9 _ I9 q9) fun z s10 ⟨yv, H10, I10, r10, zb, ez, q10⟩ => ?_
          subst ez
          have ez : z = Value.bool zb := r10
          subst ez
          refine seg_at (seg_yield rfl rfl rfl ⟨zb, rfl, hgo _ (I10.pin (a, go) (List.mem_append_left _ List.mem_cons_self)).1, I10.nolimit, I10.bare, ?_⟩)
          by_cases hz : zb = c
          · rw [if_pos hz] at q10 ⊢
            exact ⟨H10, back I10, q10⟩
          · rw [if_neg hz] at q10 ⊢
            intro s2 e1 e2 e3
            obtain ⟨m', hm', w'⟩ := hNx _ q10
            obtain ⟨J1, J2, J3⟩ := fin I10
            refine seg_again rfl (ihn m' (i + 1) s2 s2 H10 (by omega) w' (inv_gens J1 e1 e2 e3) (by rw [e1]; exact J2) J3)
/-- the generator, not begun -/
theorem seg_genS {scope : Scope} {own : List (Str × Nat)} {fp : List Addr} {B : Around} {cenv : Env} {go : Obj} {a it : Addr} {gn : Nat} {elt tg iter : Expr} {ifs : List Expr} {gpos : Pos} {g : TG} {tt : TT} {te : TE} {c : Bool} {Q : VK} {J : It} {tn : Nat → Heap → Prop}
    (hc : X.calm = true) (I : Inv X pins σ H s) (hfp : ∀ b ∈ fp, FpOk X pins H b ∧ b < s.heap.objs.size) (hco : cenv.scope.isCoroutine = false)
    (T : Turn X.prog X.w X.K tg J fp it tn) (D : GBody J g tt te (own.map (·.2)) c σ Q)
    (hgo : ∀ h : Heap, h.get? a = some go → h.IsGen a gn) (hsa : s.heap.objs.size ≤ a)
    (pg : PG (gbx X (B.over (.compLoop (genX elt tg iter ifs scope gpos) 0 (.ref it) .none cenv) []) s H scope cenv fp [(a, go)]) tg g)
    (pt : PTs (gbx X (B.over (.compLoop (genX elt tg iter ifs scope gpos) 0 (.ref it) .none cenv) []) s H scope cenv fp [(a, go)]) ifs tt)
    (pe : PE (gbx X (B.over (.compLoop (genX elt tg iter ifs scope gpos) 0 (.ref it) .none cenv) []) s H scope cenv fp [(a, go)]) elt te)
    {m : Nat} {s₀ s5 : Shared} {H5 : Hp} (w5 : D.W 0 m H5) (I5 : Inv (gbx X (B.over (.compLoop (genX elt tg iter ifs scope gpos) 0 (.ref it) .none cenv) []) s H scope cenv fp [(a, go)]) [] (wipe σ (own.map (·.2))) H5 s5) (st5 : tn 0 s5.heap) (n5 : ∀ b ∈ fp, H5 b = none) :
    Seg (model X.prog X.w) B (GEnd X pins σ c Q) (GItem X pins σ c Q a gn) (m + 1) s₀ (.compStart (genX elt tg iter ifs scope gpos) 0 (.ref it) .none cenv)
        ((model X.prog X.w).den (.compStart (genX elt tg iter ifs scope gpos) 0 (.ref it) .none cenv)) [] s5 := by
  have loop := seg_gen hc I hfp hco T D hgo hsa pg pt pe (m + 1) m 0 s₀ s5 H5 (Nat.lt_succ_self _) w5 I5 st5 n5
  show Seg _ B _ _ _ s₀ _ ((compStart (genX elt tg iter ifs scope gpos) 0 (.ref it) .none cenv).onRaise (leaving cenv)) [] s5
  unfold compStart
  rw [Sem.onRaise_eq_wrap]
  show Seg _ B _ _ _ s₀ _ ((ask >>= _).wrap _ _ _ _) [] s5
  refine seg_bind_wrap (wpAny_askSetting ?_)
  split
  · exact seg_again rfl loop
  · first
      | exact seg_bind_wrap (wpAny_rule (seg_bind_wrap (wpAny_standAt (seg_bind_wrap (T.self _ 0 s5 _ _ st5 (seg_again rfl loop))))))
      | (refine seg_bind_wrap (wpAny_rule ?_); show Seg _ B _ _ _ s₀ _ ((standAt iter.pos >>= _).wrap _ _ _ _) [] s5; exact seg_bind_wrap (wpAny_standAt (seg_bind_wrap (T.self _ 0 s5 _ _ st5 (seg_again rfl loop)))))
/-- all: on until a test is False -/
theorem all_loop {Q : VK} {a : Addr} {gn : Nat} {R : Result → Shared → Prop} (hh : X.A.handled = none) (hroom : X.A.depth < recursionLimit)
    (hR : ∀ b s', (∃ H', Inv X pins σ H' s' ∧ Q (.bl b) H') → R (.ok (.ret (.bool b))) s') :
    ∀ (n : Nat) (s5 : Shared), s5.heap.IsGen a gn → s5.heap.NoLimit → (∃ gs, s5.gens[gn]? = some gs ∧ gs.Goes (model X.prog X.w) X.A.in1.in1 (GEnd X pins σ false Q) (GItem X pins σ false Q a gn) n (.send .none) (s5.setGen gn .running)) →
      codeAny (model X.prog X.w) X.A (.builtin "all.loop" ⟨[.ref a], []⟩) R s5 := by
  intro n
  induction n with
  | zero =>
    intro s5 hg hl ⟨gs, hgs, hgo⟩
    refine codeAny_builtin F.entry_all_loop ?_
    rw [Around.under_plainId F.plain_all_loop _]
    show wpAny _ X.A.in1 (pyNext (.ref a) >>= _) _ _ s5
    refine wpAny_bind (wpAny_pyNext_genexpQ (A := X.A.in1) (P := fun _ _ s₁ => ∃ H', Inv X pins σ H' s₁ ∧ Q (.bl true) H') hh hl hroom hg hgs hgo (fun v s₁ gs' hb hv => ?_) (fun s₁ hp h' hk => ?_))
    · obtain ⟨z, rfl, h1, h2, h3, hz⟩ := hv
      refine wpAny_bind (wpAny_holding (wpAny_truthy_bool ?_))
      refine wpAny_bind (wpAny_letGo ?_)
      cases z with
      | false =>
        simp only [if_true, Bool.false_eq_true, if_false] at hz ⊢
        obtain ⟨H', I', q⟩ := hz
        exact wpAny_bind (wpAny_rule (wpAny_pure (hR _ _ ⟨H', inv_gens I' rfl rfl (allBare_setGen h3 hb), q⟩)))
      | true =>
        rw [if_neg (by decide)] at hz
        exact (hz s₁ rfl rfl h3).elim
    · refine wpAny_bind (wpAny_rule (wpAny_pure ?_))
      obtain ⟨H', I', q⟩ := hp
      exact hR true _ ⟨H', inv_grown I' hk rfl (allBare_setGen I'.bare rfl), q⟩
  | succ n ih =>
    intro s5 hg hl ⟨gs, hgs, hgo⟩
    have hgl : gn < s5.gens.size := (Array.getElem?_eq_some_iff.mp hgs).1
    refine codeAny_builtin F.entry_all_loop ?_
    rw [Around.under_plainId F.plain_all_loop _]
    show wpAny _ X.A.in1 (pyNext (.ref a) >>= _) _ _ s5
    refine wpAny_bind (wpAny_gsz (n := gn + 1) hgl (wpAny_pyNext_genexpQ (A := X.A.in1) (P := fun _ _ s₁ => ∃ H', Inv X pins σ H' s₁ ∧ Q (.bl true) H') hh hl hroom hg hgs hgo (fun v s₁ gs' hb hv => ?_) (fun s₁ hp h' hk => ?_)))
    · intro hsz
      obtain ⟨z, rfl, h1, h2, h3, hz⟩ := hv
      refine wpAny_bind (wpAny_holding (wpAny_truthy_bool ?_))
      refine wpAny_bind (wpAny_letGo ?_)
      cases z with
      | false =>
        simp only [if_true, Bool.false_eq_true, if_false] at hz ⊢
        obtain ⟨H', I', q⟩ := hz
        exact wpAny_bind (wpAny_rule (wpAny_pure (hR _ _ ⟨H', inv_gens I' rfl rfl (allBare_setGen h3 hb), q⟩)))
      | true =>
        rw [if_neg (by decide)] at hz
        simp only [if_true]
        have hsz1 : gn < s₁.gens.size := by
          have q : (s₁.setGen gn gs').gens.size = s₁.gens.size := setGen_size _ _ _
          have hsz' : gn + 1 ≤ (s₁.setGen gn gs').gens.size := hsz
          omega
        exact wpAny_pure ⟨plainId_quiet F.plain_all_loop _, ih _ h1 h2 ⟨gs', setGen_at hsz1, hz _ rfl rfl (allBare_setGen (s := s₁.setGen gn gs') (allBare_setGen h3 hb) rfl)⟩⟩
    · intro _
      refine wpAny_bind (wpAny_rule (wpAny_pure ?_))
      obtain ⟨H', I', q⟩ := hp
      exact hR true _ ⟨H', inv_grown I' hk rfl (allBare_setGen I'.bare rfl), q⟩
/-- any: on until a test is True -/
theorem any_loop {Q : VK} {a : Addr} {gn : Nat} {R : Result → Shared → Prop} (hh : X.A.handled = none) (hroom : X.A.depth < recursionLimit)
    (hR : ∀ b s', (∃ H', Inv X pins σ H' s' ∧ Q (.bl b) H') → R (.ok (.ret (.bool b))) s') :
    ∀ (n : Nat) (s5 : Shared), s5.heap.IsGen a gn → s5.heap.NoLimit → (∃ gs, s5.gens[gn]? = some gs ∧ gs.Goes (model X.prog X.w) X.A.in1.in1 (GEnd X pins σ true Q) (GItem X pins σ true Q a gn) n (.send .none) (s5.setGen gn .running)) →
      codeAny (model X.prog X.w) X.A (.builtin "any.loop" ⟨[.ref a], []⟩) R s5 := by
  intro n
  induction n with
  | zero =>
    intro s5 hg hl ⟨gs, hgs, hgo⟩
    refine codeAny_builtin F.entry_any_loop ?_
    rw [Around.under_plainId F.plain_any_loop _]
    show wpAny _ X.A.in1 (pyNext (.ref a) >>= _) _ _ s5
    refine wpAny_bind (wpAny_pyNext_genexpQ (A := X.A.in1) (P := fun _ _ s₁ => ∃ H', Inv X pins σ H' s₁ ∧ Q (.bl false) H') hh hl hroom hg hgs hgo (fun v s₁ gs' hb hv => ?_) (fun s₁ hp h' hk => ?_))
    · obtain ⟨z, rfl, h1, h2, h3, hz⟩ := hv
      refine wpAny_bind (wpAny_holding (wpAny_truthy_bool ?_))
      refine wpAny_bind (wpAny_letGo ?_)
      cases z with
      | true =>
        simp only [if_true] at hz ⊢
        obtain ⟨H', I', q⟩ := hz
        exact wpAny_bind (wpAny_rule (wpAny_pure (hR _ _ ⟨H', inv_gens I' rfl rfl (allBare_setGen h3 hb), q⟩)))
      | false =>
        rw [if_neg (by decide)] at hz
        exact (hz s₁ rfl rfl h3).elim
    · refine wpAny_bind (wpAny_rule (wpAny_pure ?_))
      obtain ⟨H', I', q⟩ := hp
      exact hR false _ ⟨H', inv_grown I' hk rfl (allBare_setGen I'.bare rfl), q⟩
  | succ n ih =>
    intro s5 hg hl ⟨gs, hgs, hgo⟩
    have hgl : gn < s5.gens.size := (Array.getElem?_eq_some_iff.mp hgs).1
    refine codeAny_builtin F.entry_any_loop ?_
    rw [Around.under_plainId F.plain_any_loop _]
    show wpAny _ X.A.in1 (pyNext (.ref a) >>= _) _ _ s5
    refine wpAny_bind (wpAny_gsz (n := gn + 1) hgl (wpAny_pyNext_genexpQ (A := X.A.in1) (P := fun _ _ s₁ => ∃ H', Inv X pins σ H' s₁ ∧ Q (.bl false) H') hh hl hroom hg hgs hgo (fun v s₁ gs' hb hv => ?_) (fun s₁ hp h' hk => ?_)))
    · intro hsz
      obtain ⟨z, rfl, h1, h2, h3, hz⟩ := hv
      refine wpAny_bind (wpAny_holding (wpAny_truthy_bool ?_))
      refine wpAny_bind (wpAny_letGo ?_)
      cases z with
      | true =>
        simp only [if_true] at hz ⊢
        obtain ⟨H', I', q⟩ := hz
        exact wpAny_bind (wpAny_rule (wpAny_pure (hR _ _ ⟨H', inv_gens I' rfl rfl (allBare_setGen h3 hb), q⟩)))
      | false =>
        rw [if_neg (by decide)] at hz
        simp only [Bool.false_eq_true, if_false]
        have hsz1 : gn < s₁.gens.size := by
          have q : (s₁.setGen gn gs').gens.size = s₁.gens.size := setGen_size _ _ _
          have hsz' : gn + 1 ≤ (s₁.setGen gn gs').gens.size := hsz
          omega
        exact wpAny_pure ⟨plainId_quiet F.plain_any_loop _, ih _ h1 h2 ⟨gs', setGen_at hsz1, hz _ rfl rfl (allBare_setGen (s := s₁.setGen gn gs') (allBare_setGen h3 hb) rfl)⟩⟩
    · intro _
      refine wpAny_bind (wpAny_rule (wpAny_pure ?_))
      obtain ⟨H', I', q⟩ := hp
      exact hR false _ ⟨H', inv_grown I' hk rfl (allBare_setGen I'.bare rfl), q⟩
/-- a generator that stands ready, behind its making -/
def GReady (X : Cx) (pins : List (Addr × Obj)) (σ : L2.St) (c : Bool) (Q : VK) (v : Value) (s5 : Shared) : Prop :=
  ∃ (a : Addr) (gn n : Nat), v = .ref a ∧ s5.heap.IsGen a gn ∧ s5.heap.NoLimit ∧ ∃ gs, s5.gens[gn]? = some gs ∧ gs.Goes (model X.prog X.w) X.A.in1.in1 (GEnd X pins σ c Q) (GItem X pins σ c Q a gn) n (.send .none) (s5.setGen gn .running)
theorem call_all_gen {Q : VK} {v : Value} {E : Value → Shared → Prop} {s5 : Shared} (hh : X.A.handled = none) (hroom : X.A.depth < recursionLimit) (h : GReady X pins σ false Q v s5) :
    wpAny (model X.prog X.w) X.A (call (.builtin "all") [v]) (EP X pins σ Q) E s5 := by
  obtain ⟨a, gn, n, rfl, hg, hl, hgs⟩ := h
  refine call_function_tree F.kind_all F.plain_all F.entry_all (F.args_all1 _) ?_
  unfold Builtin.«all»
  refine wpAny_bind (m := oneArg "all" _) (wpAny_pure ?_)
  refine wpAny_bind (wpAny_pyIter_gen hg ?_)
  exact wpAny_pure ⟨plainId_quiet F.plain_all_loop _, all_loop hh hroom (fun b s' ⟨H', I', q⟩ => ⟨.bl b, H', I', rfl, q⟩) n s5 hg hl hgs⟩
theorem call_any_gen {Q : VK} {v : Value} {E : Value → Shared → Prop} {s5 : Shared} (hh : X.A.handled = none) (hroom : X.A.depth < recursionLimit) (h : GReady X pins σ true Q v s5) :
    wpAny (model X.prog X.w) X.A (call (.builtin "any") [v]) (EP X pins σ Q) E s5 := by
  obtain ⟨a, gn, n, rfl, hg, hl, hgs⟩ := h
  refine call_function_tree F.kind_any F.plain_any F.entry_any (F.args_any1 _) ?_
  unfold Builtin.«any»
  refine wpAny_bind (m := oneArg "any" _) (wpAny_pure ?_)
  refine wpAny_bind (wpAny_pyIter_gen hg ?_)
  exact wpAny_pure ⟨plainId_quiet F.plain_any_loop _, any_loop hh hroom (fun b s' ⟨H', I', q⟩ => ⟨.bl b, H', I', rfl, q⟩) n s5 hg hl hgs⟩
/-- a generator expression's own scope -/
structure GSc (scope : Scope) : Prop where
  co : scope.isCoroutine = false
  cell : ∀ y ∈ scope.names, y.2 ≠ .cell
  dot : scope.names.lookup (".0" : Str) = some NameKind.local
/-- a walk of tests, up to the first that is c; the def's table may have grown ahead of it -/
def tQt (c : Bool) (P : Addr) (wi : TI) (g : TG) (tt : TT) (te : TE) (vs : List Nat) : TE := fun σ H Q => wi σ H fun J H1 => GxR.TabG H1 P ∧ ∀ H2, GxR.Tabbed P H1 H2 → ∃ (D : GBody J g tt te vs c σ Q) (m : Nat), D.W 0 m H2
theorem gen_made {cc P : Addr} {elt tg iter : Expr} {ifs : List Expr} {gpos : Pos} {scope : Scope} {own : List (Str × Nat)} {wi : TI} {g : TG} {tt : TT} {te : TE} {k : Nat} {c : Bool} {Q' : Value → Shared → Prop} {Q : VK}
    (hc : X.calm = true) (hN : X.N.Nodup) (hr : Room (k + 1) X.A) (TB : GxR.TabB X.base X.mg cc P) (hcode : X.env.code = .ref cc) (S : GSc scope) (ok : BlkOk X.N X.env.scope scope own) (hi : PI X tg iter wi)
    (hg : ∀ (Ag : Around) (s : Shared) (H : Hp) (C : Addr) (cl : List (Str × Addr)) (code : Value) (fp : List Addr) (pn : List (Addr × Obj)), Room k Ag → PG (gbx X Ag s H scope (genEnv scope cl C code builtinsNs X.env) fp pn) tg g)
    (ht : ∀ (Ag : Around) (s : Shared) (H : Hp) (C : Addr) (cl : List (Str × Addr)) (code : Value) (fp : List Addr) (pn : List (Addr × Obj)), Room k Ag → PTs (gbx X Ag s H scope (genEnv scope cl C code builtinsNs X.env) fp pn) ifs tt)
    (he : ∀ (Ag : Around) (s : Shared) (H : Hp) (C : Addr) (cl : List (Str × Addr)) (code : Value) (fp : List Addr) (pn : List (Addr × Obj)), Room k Ag → PE (gbx X Ag s H scope (genEnv scope cl C code builtinsNs X.env) fp pn) elt te)
    (hs : ∀ v, genFold iter X.env v = pure v) (I : Inv X pins σ H s) (h : tQt c P wi g tt te (own.map (·.2)) σ H Q) (hQ : ∀ v s5, GReady X pins σ c Q v s5 → Q' v s5) :
    wpAny (model X.prog X.w) X.A (eval (genX elt tg iter ifs scope gpos) X.env) Q' X.xe s := by
  have hh := I.ok.hd hc
  have hroom : X.A.depth < recursionLimit := by have := hr.dp; omega
  have hfree : ∀ y ∈ scope.names, y.2 = .free → ∃ c, X.env.cells.lookup y.1 = some c := fun y hy e => by
    rcases ok.free y hy e with k | k
    · exact I.ok.has _ (.inl k)
    · exact I.ok.has _ (.inr k)
  refine wpAny_GeneratorExp_make S.co (closure_ok hfree) S.cell S.dot ok.kind hroom (thn (hi.run pins s σ H _ I h) fun xv s1 hx => thn hx fun itv s2 h2 => ?_) hs
  obtain ⟨it, fp, tn, J, H2, e, I2, T, st2, f2, ⟨ps, hP, htr⟩, q⟩ := h2
  subst e
  refine ⟨I2.nolimit, ?_⟩
  have hPs : s2.heap.get? P = some { cls := .none, data := .fields ps } := I2.hok P _ hP
  have nP : ∀ b ∈ fp, b ≠ P := fun b hb z => by
    have := (f2 b hb).1
    rw [z, hP] at this; cases this
  have cd : PySem.W.CodeHd s2.heap cc P := TB.code.keeps fun b u e => I2.bk b u e
  have cont : ∀ (code : Value) (h3 : Heap) (tk : Nat) (ps' : Array Value), Heap.ExtBut P s2.heap h3 → h3.get? P = some { cls := .none, data := .fields ps' } → (∃ more, ps' = ps ++ more) → TriplesOk ps'.toList →
      wpAny (model X.prog X.w) X.A (builtinsFor X.env.globals X.env.builtins) (fun bi s₄ =>
        ∀ h', h'.Ns s₄.heap.objs.size (fun y => if y = ".0" then some (.ref it) else none) → Heap.SameBut s₄.heap.objs.size (s₄.heap.push { cls := .type "frame", data := .dict #[] }) h' →
          Q' (.ref h'.objs.size) { s₄ with
            gens := s₄.gens.push (.fresh (.compStart (genX elt tg iter ifs scope gpos) 0 (.ref it) .none (genEnv scope (cloFrom X.env.cells scope.names []) s₄.heap.objs.size code bi X.env))),
            toks := s₄.toks + 1 + 1 + 1,
            heap := h'.push { cls := .type "generator", data := .fields #[.int s₄.gens.size 0, .str "<genexpr>" (s₄.toks + 1), .str (X.env.qual ++ "<genexpr>") (s₄.toks + 1 + 1)] } }) X.xe { s2 with heap := h3, toks := tk } := by
    intro code h3 tk ps' hx hP3 hmore ht3
    obtain ⟨more, rfl⟩ := hmore
    obtain ⟨bm, ob, e1, e2, e3, e4, e5, e6, e7, e8⟩ := TB.bm
    have keep3 : ∀ b u, b ≠ P → s2.heap.get? b = some u → h3.get? b = some u := fun b u hb e => hx b u hb e
    have I3 := GxR.inv_tab (more := more) (h' := h3) (g' := s2.gens) (d' := s2.drawn) (t' := tk) I2 hP keep3 hP3 I2.bare
    have f3 : ∀ b ∈ fp, FpOk X pins (upd H2 P (.tbl (ps ++ more))) b := fun b hb => by
      obtain ⟨z0, z⟩ := f2 b hb
      exact ⟨by rw [upd_ne (nP b hb)]; exact z0, z⟩
    have st3 : tn 0 h3 := T.keep _ _ _ st2 fun b hb o e => keep3 b o (nP b hb) e
    obtain ⟨D, m, w0⟩ := q _ ⟨⟨ps ++ more, upd_same, ht3⟩, fun b hb => upd_ne hb⟩
    generalize hs3 : ({ s2 with heap := h3, toks := tk } : Shared) = s3 at I3
    have eh : s3.heap = h3 := by rw [← hs3]
    generalize upd H2 P (.tbl (ps ++ more)) = H3 at I3 f3 w0
    refine wpAny_builtinsFor (m := X.mg) (by rw [I2.ok.glob, eh]; exact (I2.mod.glob.keeps I2.bk).extBut hx TB.gP) e1 e2 (by rw [eh]; exact keep3 _ _ e4 (I2.bk _ _ e5)) e6 e7 e8 ?_
    intro h' hn hsb
    refine hQ _ _ ?_
    have sz : ∀ b ∈ fp, b < s3.heap.objs.size := fun b hb => by
      obtain ⟨o, e, _⟩ := T.obj _ _ st3 b hb
      rw [eh]; exact Heap.lt_size e
    have szh : h'.objs.size = s3.heap.objs.size + 1 := hsb.1.trans (Heap.size_push ..)
    generalize hgo : ({ cls := .type "generator", data := .fields #[.int s3.gens.size 0, .str "<genexpr>" (s3.toks + 1), .str (X.env.qual ++ "<genexpr>") (s3.toks + 1 + 1)] } : Obj) = go
    have hgf : (h'.push go).get? h'.objs.size = some go := by rw [← hgo]; exact Heap.get?_push_size _ rfl
    have hgen : ∀ h : Heap, h.get? h'.objs.size = some go → h.IsGen h'.objs.size s3.gens.size := fun h e => ⟨go, _, _, e, by rw [← hgo], by rw [← hgo], by rw [← hgo]⟩
    have hgd : ∀ v, go.data ≠ .cell v := fun v z => by rw [← hgo] at z; cases z
    generalize hce : genEnv scope (cloFrom X.env.cells scope.names []) s3.heap.objs.size code builtinsNs X.env = cenv
    have kp : ∀ b o, s3.heap.get? b = some o → (h'.push go).get? b = some o := fun b o e => Heap.get?_push_of_some _ (hsb.extBut b o (Nat.ne_of_lt (Heap.lt_size e)) (Heap.get?_push_of_some _ e))
    have rm : Room k (Around.over X.A.in1.in1 (.compLoop (genX elt tg iter ifs scope gpos) 0 (.ref it) .none cenv) []) := ⟨hh, by
      have := hr.dp
      have e : (Around.over X.A.in1.in1 (.compLoop (genX elt tg iter ifs scope gpos) 0 (.ref it) .none cenv) []).depth ≤ X.A.depth + 1 := Nat.le_of_eq rfl
      omega, by
      have := hr.un
      have e : (Around.over X.A.in1.in1 (.compLoop (genX elt tg iter ifs scope gpos) 0 (.ref it) .none cenv) []).units ≤ X.A.units + 5 := Nat.le_of_eq rfl
      omega⟩
    have fr : (Around.over X.A.in1.in1 (.compLoop (genX elt tg iter ifs scope gpos) 0 (.ref it) .none cenv) []).frames = some (cenv :: X.stack) := by
      simp [Around.over, genX, envsOf, pushEnvs, Code.envs, Code.env?, Code.isFrame, I.ok.frames]
    refine ⟨h'.objs.size, s3.gens.size, m + 1, rfl, hgen _ hgf, I3.nolimit.keeps kp, _, Array.getElem?_push_size .., rfl, ?_⟩
    have I5 := gen_start (Ag := Around.over X.A.in1.in1 (.compLoop (genX elt tg iter ifs scope gpos) 0 (.ref it) .none cenv) []) (code := code) (fp := fp) (own := own) (scope := scope)
      (s2 := ({ s3 with gens := s3.gens.push (.fresh (.compStart (genX elt tg iter ifs scope gpos) 0 (.ref it) .none cenv)), toks := s3.toks + 1 + 1 + 1, heap := h'.push go } : Shared).setGen s3.gens.size .running)
      I3 ok hN S.cell (fun b hb => ⟨f3 b hb, sz b hb⟩) hh (by rw [hce]; exact fr) hn hsb rfl rfl (allBare_setGen (AllBare.push I3.bare rfl) rfl) hgd hgf
    rw [hce] at I5
    have pg := hg _ s3 H3 s3.heap.objs.size (cloFrom X.env.cells scope.names []) code fp [(h'.objs.size, go)] rm
    have pt := ht _ s3 H3 s3.heap.objs.size (cloFrom X.env.cells scope.names []) code fp [(h'.objs.size, go)] rm
    have pe := he _ s3 H3 s3.heap.objs.size (cloFrom X.env.cells scope.names []) code fp [(h'.objs.size, go)] rm
    rw [hce] at pg pt pe
    exact seg_genS hc I3 (fun b hb => ⟨f3 b hb, sz b hb⟩) (by rw [← hce]; exact S.co) T D hgen (by omega) pg pt pe w0 I5 (T.keep _ _ _ (by rw [eh]; exact st3) fun b _ o e => kp b o e) fun b hb => (f3 b hb).1
  cases hf : codeAmong gpos ps.toList with
  | none =>
    refine wpAny_genexprCodeX hcode (cd.code hPs htr) (cd.tab hPs) hf fun c' h' tk hx hge hlt hco' _ htab' _ => ?_
    obtain ⟨o1, vs, f1, tf, fl, tg, inF, tx, tt, op, _, _, _, _, _, _, _, _, _, htr', _⟩ := hco'
    exact cont _ h' tk _ hx htab'.2 ⟨_, rfl⟩ htr'
  | some cv =>
    refine wpAny_genexprCode_hit hcode (cd.code hPs htr) hf ?_
    exact cont cv s2.heap s2.toks ps (Heap.ExtBut.refl _ _) hPs ⟨#[], by simp⟩ htr
end
section
variable {X : Cx} {cc P : Addr} {elt tg iter : Expr} {ifs : List Expr} {p pos gpos : Pos} {scope : Scope} {own : List (Str × Nat)} {wi : TI} {g : TG} {tt : TT} {te : TE} {k : Nat}
theorem pe_allG (hc : X.calm = true) (hN : X.N.Nodup) (hr : Room (k + 1) X.A) (hgl : Gl X "all") (hm : X.mg "all" = none) (hb : bootBuiltins "all" = some (.builtin "all")) (TB : GxR.TabB X.base X.mg cc P) (hcode : X.env.code = .ref cc) (S : GSc scope) (ok : BlkOk X.N X.env.scope scope own) (hi : PI X tg iter wi)
    (hg : ∀ (Ag : Around) (s : Shared) (H : Hp) (C : Addr) (cl : List (Str × Addr)) (code : Value) (fp : List Addr) (pn : List (Addr × Obj)), Room k Ag → PG (gbx X Ag s H scope (genEnv scope cl C code builtinsNs X.env) fp pn) tg g)
    (ht : ∀ (Ag : Around) (s : Shared) (H : Hp) (C : Addr) (cl : List (Str × Addr)) (code : Value) (fp : List Addr) (pn : List (Addr × Obj)), Room k Ag → PTs (gbx X Ag s H scope (genEnv scope cl C code builtinsNs X.env) fp pn) ifs tt)
    (he' : ∀ (Ag : Around) (s : Shared) (H : Hp) (C : Addr) (cl : List (Str × Addr)) (code : Value) (fp : List Addr) (pn : List (Addr × Obj)), Room k Ag → PE (gbx X Ag s H scope (genEnv scope cl C code builtinsNs X.env) fp pn) elt te)
    (hs : ∀ v, genFold iter X.env v = pure v) (he : starEach [genX elt tg iter ifs scope gpos] X.env = (false, eval (genX elt tg iter ifs scope gpos) X.env) :: starEach [] X.env) :
    PE X (.Call (.Name "all" p) [genX elt tg iter ifs scope gpos] [] pos) (tQt false P wi g tt te (own.map (·.2))) := by
  refine ⟨fun pins s σ H Q I h => ?_⟩
  refine wpAny_Call_Name_kw (ld_blt I hgl hm hb ?_)
  refine PyProof.Rows.callWith_builtin1 ?_ he (by rfl)
  rw [he]
  show wpAny _ _ (spliced ((false, eval (genX elt tg iter ifs scope gpos) X.env) :: backTo pos (starEach [] X.env))) _ _ s
  refine Calls.spliced_cons (gen_made hc hN hr TB hcode S ok hi hg ht he' hs I h fun v s5 hR => ?_)
  refine Calls.spliced_nil ?_
  exact call_all_gen (I.ok.hd hc) (by have := hr.dp; omega) hR
theorem pe_anyG (hc : X.calm = true) (hN : X.N.Nodup) (hr : Room (k + 1) X.A) (hgl : Gl X "any") (hm : X.mg "any" = none) (hb : bootBuiltins "any" = some (.builtin "any")) (TB : GxR.TabB X.base X.mg cc P) (hcode : X.env.code = .ref cc) (S : GSc scope) (ok : BlkOk X.N X.env.scope scope own) (hi : PI X tg iter wi)
    (hg : ∀ (Ag : Around) (s : Shared) (H : Hp) (C : Addr) (cl : List (Str × Addr)) (code : Value) (fp : List Addr) (pn : List (Addr × Obj)), Room k Ag → PG (gbx X Ag s H scope (genEnv scope cl C code builtinsNs X.env) fp pn) tg g)
    (ht : ∀ (Ag : Around) (s : Shared) (H : Hp) (C : Addr) (cl : List (Str × Addr)) (code : Value) (fp : List Addr) (pn : List (Addr × Obj)), Room k Ag → PTs (gbx X Ag s H scope (genEnv scope cl C code builtinsNs X.env) fp pn) ifs tt)
    (he' : ∀ (Ag : Around) (s : Shared) (H : Hp) (C : Addr) (cl : List (Str × Addr)) (code : Value) (fp : List Addr) (pn : List (Addr × Obj)), Room k Ag → PE (gbx X Ag s H scope (genEnv scope cl C code builtinsNs X.env) fp pn) elt te)
    (hs : ∀ v, genFold iter X.env v = pure v) (he : starEach [genX elt tg iter ifs scope gpos] X.env = (false, eval (genX elt tg iter ifs scope gpos) X.env) :: starEach [] X.env) :
    PE X (.Call (.Name "any" p) [genX elt tg iter ifs scope gpos] [] pos) (tQt true P wi g tt te (own.map (·.2))) := by
  refine ⟨fun pins s σ H Q I h => ?_⟩
  refine wpAny_Call_Name_kw (ld_blt I hgl hm hb ?_)
  refine PyProof.Rows.callWith_builtin1 ?_ he (by rfl)
  rw [he]
  show wpAny _ _ (spliced ((false, eval (genX elt tg iter ifs scope gpos) X.env) :: backTo pos (starEach [] X.env))) _ _ s
  refine Calls.spliced_cons (gen_made hc hN hr TB hcode S ok hi hg ht he' hs I h fun v s5 hR => ?_)
  refine Calls.spliced_nil ?_
  exact call_any_gen (I.ok.hd hc) (by have := hr.dp; omega) hR
end
end FLG

/-! FL13: all, any of a generator expression by data; the end with tables. -/
namespace FL
open PySem PySem.Spec PyProof.Rows L2
section
variable {K : PySem.W.Frag} {L : Lw} {b : Beg} {F F' : Hp} {s : Sl} {σ : L2.St} {H H' : Hp}
/-- the table has grown -/
theorem Rel.tabbed {P : Addr} (R : Rel K L b F s σ H) (hP : P ∈ L.tabs) (t : GxR.Tabbed P H H') : Rel K L b F s σ H' ∧ Kp b H H' := by
  obtain ⟨ps, e, tr⟩ := R.tab P hP
  obtain ⟨⟨ps', e', tr'⟩, same⟩ := t
  have ne : ∀ a o, H a = some o → (∀ ps, o ≠ .tbl ps) → a ≠ P := fun a o h n z => by
    subst z; rw [e] at h; cases h; exact n _ rfl
  have fP : F P = none := by
    cases q : F P with
    | none => rfl
    | some o =>
      have := R.sub P o q
      rw [e] at this; cases this
      exact absurd q (R.ntb P _)
  have kp : Kp b H H' := fun a o h _ n => by rw [same a (ne a o h n)]; exact h
  refine ⟨{ sub := fun a o h => ?_, old := R.old, new := R.new, keep := R.keep.trans kp, live := fun a h => R.live a ?_, drw := fun a h => ?_, tab := fun Q hQ => ?_, ntb := R.ntb, len := R.len, slot := fun i c q => (R.slot i c q).mono (Same.refl F) (fun _ h _ => h) kp, apart := R.apart }, kp⟩
  · have z : a ≠ P := fun z => by subst z; rw [fP] at h; cases h
    rw [same a z]; exact R.sub a o h
  · by_cases z : a = P
    · subst z; rw [e'] at h; cases h
    · rw [← same a z]; exact h
  · obtain ⟨h1, us, ds, h2, h3⟩ := R.drw a h
    exact ⟨h1, us, ds, by rw [same a (ne a _ h2 fun ps z => by cases z)]; exact h2, h3⟩
  · by_cases z : Q = P
    · subst z; exact ⟨ps', e', tr'⟩
    · obtain ⟨qs, h1, h2⟩ := R.tab Q hQ
      exact ⟨qs, by rw [same Q z]; exact h1, h2⟩
end
/-- tests one by one, up to the first that is c -/
def wQtL (stp : Prop → Prop → Bool → Prop) (fin stop : Bool) (wg : Wg) (wt : Wt) (we : We) (vs : List Nat) (ds : List D) : Sl → (Bool → Prop) → Prop := fun s Q => ∃ I : Nat → Prop, I 0 ∧
  (∀ i d, ds[i]? = some d → I i → wg d (wipeS (lkS s) vs) fun s2 => wt s2 (fun c => cond c (we s2 (fun y => match y with | .bool z => stp (Q stop) (I (i + 1)) z | _ => False) fun _ => False) (I (i + 1))) fun _ => False) ∧
  (I ds.length → Q fin)
def stpAll : Prop → Prop → Bool → Prop := fun A B z => cond z B A
def stpAny : Prop → Prop → Bool → Prop := fun A B z => cond z A B
def wAllL := wQtL stpAll true false
def wAnyL := wQtL stpAny false true
def wAll (wl : Wl) (wg : Wg) (wt : Wt) (we : We) (vs : List Nat) : We := fun s Q R => wl s (fun ds => wAllL wg wt we vs ds s fun b => Q (.bool b)) R
def wAny (wl : Wl) (wg : Wg) (wt : Wt) (we : We) (vs : List Nat) : We := fun s Q R => wl s (fun ds => wAnyL wg wt we vs ds s fun b => Q (.bool b)) R
section
variable {X : Cx} {L : Lw} {W : WX} {P : Addr} {vs : List Nat} {g : TG} {wg : Wg} {wi : TI} {tt : TT} {te : TE} {wl : Wl} {wt : Wt} {we : We}
theorem snd_qt {stp : Prop → Prop → Bool → Prop} {c : Bool} (hstp : ∀ A B z, stp A B z → if z = c then A else B) (hP : P ∈ L.tabs) (hi : SndI X.K L W wi wl) (hg : ∃ X' tg, FGc X' L vs tg g wg ∧ X'.K = X.K) (ht : SndT X.K L WF tt wt) (he : Snd X.K L WF te we) :
    Snd X.K L W (FLG.tQt c P wi g tt te vs) (fun s Q R => wl s (fun ds => wQtL stp (!c) c wg wt we vs ds s fun b => Q (.bool b)) R) := by
  obtain ⟨X', tg', hg, hK⟩ := hg
  intro b F s σ H Q R k I h hx kk
  refine hi b F s σ H _ R _ I h hx fun F1 ds J H1 I1 m1 k1 wd q => ⟨I1.tab P hP, fun H2 tb => ?_⟩
  obtain ⟨I2, k2⟩ := I1.tabbed hP tb
  obtain ⟨Iv, i0, ist, ie⟩ := q
  refine ⟨⟨fun i m H3 => m = ds.length - i ∧ i ≤ ds.length ∧ ∃ F3, Rel X.K L b F3 s σ H3 ∧ Same F1 F3 ∧ Kp b H H3 ∧ Iv i, ?_⟩, _, rfl, Nat.zero_le _, F1, I2, Same.refl F1, k1.trans k2, i0⟩
  rintro i m H3 ⟨rfl, hle, F3, I3, m3, k3, iv⟩
  have Ij := I3.inner
  obtain ⟨hgo, hstop, hy⟩ := wd _ F3 _ σ H3 Ij m3 trivial
  by_cases hi : i < ds.length
  · refine .inr ⟨hgo i hi, fun H4 => i + 1 ≤ ds.length ∧ ∃ F4, Rel X.K L b F4 s σ H4 ∧ Same F1 F4 ∧ Kp b H H4 ∧ Iv (i + 1), fun H4 ⟨z1, z2⟩ => ⟨ds.length - (i + 1), by omega, rfl, z1, z2⟩, fun x H4 hyy => ?_⟩
    obtain ⟨F4, d, e4, I4, m4, k4, r4⟩ := hy i x H4 hi hyy
    have q := ist i d e4 iv
    refine hg.only x _ H4 _ _ (hg.snd ⟨H3, F3, b.dr⟩ F4 _ _ H4 x d _ (fun σ' H' => tt σ' H' fun b1 H5 => if b1 = true then te σ' H5 fun y H6 => ∃ z, y = .bl z ∧ if z = c then k (.bl c) H6 else (i + 1 ≤ ds.length ∧ ∃ F4, Rel X.K L b F4 s σ H6 ∧ Same F1 F4 ∧ Kp b H H6 ∧ Iv (i + 1)) else (i + 1 ≤ ds.length ∧ ∃ F4, Rel X.K L b F4 s σ H5 ∧ Same F1 F4 ∧ Kp b H H5 ∧ Iv (i + 1)))
      (by rw [hK]; exact I4.wipe vs) (by rw [hK]; exact r4) q fun F5 s5 σ5 H5 I5 m5 q5 => ?_) fun σ' H' e q => ⟨e.trans (wipe_idem vs fun _ z => z), q⟩
    rw [hK] at I5
    have back : ∀ {F6 : Hp} {s6 : Sl} {σ6 : L2.St} {H6 : Hp}, Rel X.K L ⟨H3, F3, b.dr⟩ F6 s6 σ6 H6 → Rel X.K L b F6 s σ H6 ∧ Kp b H H6 := fun {F6 s6 σ6 H6} I6 => ⟨I3.back I6.toGrd, fun a o e d t => I6.toGrd.keep a o (k3 a o e d t) d t⟩
    refine ht _ F5 s5 σ5 H5 _ (fun _ => False) _ I5 q5 (fun _ _ _ _ _ z => z.elim) fun F6 z6 H6 I6 m6 k6 q6 => ?_
    have m36 : Same F3 F6 := m4.trans (m5.trans m6)
    cases z6 with
    | false =>
      rw [if_neg Bool.false_ne_true]
      exact ⟨hi, F6, (back I6).1, m3.trans m36, (back I6).2, q6⟩
    | true =>
      rw [if_pos rfl]
      refine he _ F6 s5 σ5 H6 _ (fun _ => False) _ I6 q6 (fun _ _ _ _ _ z => z.elim) fun F7 y v H7 I7 m7 k7 r7 q7 => ?_
      split at q7
      · rename_i z
        cases r7
        refine ⟨z, rfl, ?_⟩
        have q8 := hstp _ _ z q7
        by_cases hz : z = c
        · rw [if_pos hz] at q8 ⊢
          exact kk F7 _ _ H7 (back I7).1 (m1.trans (m3.trans (m36.trans m7))) (back I7).2 (.bl c) q8
        · rw [if_neg hz] at q8 ⊢
          exact ⟨hi, F7, (back I7).1, m3.trans (m36.trans m7), (back I7).2, q8⟩
      · exact q7.elim
  · have e : i = ds.length := by omega
    subst e
    exact .inl ⟨hstop, kk F3 _ _ H3 I3 (m1.trans m3) k3 (.bl _) (ie iv)⟩
end
section
variable {X : Cx} {L : Lw} {W : WX} {cc P : Addr} {elt tg iter : Expr} {ifs : List Expr} {p pos gpos : Pos} {scope : Scope} {own : List (Str × Nat)} {g : TG} {wg : Wg} {wi : TI} {tt : TT} {te : TE} {wl : Wl} {wt : Wt} {we : We} {k : Nat}
theorem fe_all (TB : LamX.TabB X.base X.mg cc P) (hcode : X.env.code = .ref cc) (hP : P ∈ L.tabs) (hN : X.N.Nodup) (hr : Room (k + 1) X.A) (hm : X.mg "all" = none) (hb : bootBuiltins "all" = some (.builtin "all")) (hi : FI X L W tg iter wi wl) (S : FLG.GSc scope) (ok : BlkOk X.N X.env.scope scope own)
    (hg : ∀ (Ag : Around) (s : Shared) (H : Hp) (C : Addr) (cl : List (Str × Addr)) (code : Value) (fp : List Addr) (pn : List (Addr × Obj)), Room k Ag → FGc (FLG.gbx X Ag s H scope (genEnv scope cl C code builtinsNs X.env) fp pn) L (own.map (·.2)) tg g wg)
    (ht : ∀ (Ag : Around) (s : Shared) (H : Hp) (C : Addr) (cl : List (Str × Addr)) (code : Value) (fp : List Addr) (pn : List (Addr × Obj)), Room k Ag → FTs (FLG.gbx X Ag s H scope (genEnv scope cl C code builtinsNs X.env) fp pn) L WF ifs tt wt)
    (he : ∀ (Ag : Around) (s : Shared) (H : Hp) (C : Addr) (cl : List (Str × Addr)) (code : Value) (fp : List Addr) (pn : List (Addr × Obj)), Room k Ag → FE (FLG.gbx X Ag s H scope (genEnv scope cl C code builtinsNs X.env) fp pn) L WF elt te we)
    (hc : X.calm = true := by rfl) (hgl : Gl X "all" := by rfl) (hs : ∀ v, genFold iter X.env v = pure v := by intro _; rfl) (hst : starEach [FLG.genX elt tg iter ifs scope gpos] X.env = (false, eval (FLG.genX elt tg iter ifs scope gpos) X.env) :: starEach [] X.env := by rfl) :
    FE X L W (.Call (.Name "all" p) [.GeneratorExp elt [⟨tg, iter, ifs, 0⟩] scope gpos] [] pos) (FLG.tQt false P wi g tt te (own.map (·.2))) (wAll wl wg wt we (own.map (·.2))) := by
  have rm : ∃ Ag, Room k Ag := ⟨X.A, hr.mono (Nat.le_succ k)⟩
  obtain ⟨Ag, rm⟩ := rm
  exact ⟨FLG.pe_allG hc hN hr hgl hm hb ⟨TB.code, TB.bm, TB.gP⟩ hcode S ok hi.pe (fun Ag s H C cl code fp pn r => (hg Ag s H C cl code fp pn r).pe) (fun Ag s H C cl code fp pn r => (ht Ag s H C cl code fp pn r).pe) (fun Ag s H C cl code fp pn r => (he Ag s H C cl code fp pn r).pe) hs hst,
    snd_qt (c := false) (stp := stpAll) (fun A B z q => by cases z <;> simpa [stpAll] using q) hP hi.snd ⟨_, _, hg Ag X.s_0 X.H_0 0 [] .none [] [] rm, rfl⟩ (ht Ag X.s_0 X.H_0 0 [] .none [] [] rm).snd (he Ag X.s_0 X.H_0 0 [] .none [] [] rm).snd⟩
theorem fe_any (TB : LamX.TabB X.base X.mg cc P) (hcode : X.env.code = .ref cc) (hP : P ∈ L.tabs) (hN : X.N.Nodup) (hr : Room (k + 1) X.A) (hm : X.mg "any" = none) (hb : bootBuiltins "any" = some (.builtin "any")) (hi : FI X L W tg iter wi wl) (S : FLG.GSc scope) (ok : BlkOk X.N X.env.scope scope own)
    (hg : ∀ (Ag : Around) (s : Shared) (H : Hp) (C : Addr) (cl : List (Str × Addr)) (code : Value) (fp : List Addr) (pn : List (Addr × Obj)), Room k Ag → FGc (FLG.gbx X Ag s H scope (genEnv scope cl C code builtinsNs X.env) fp pn) L (own.map (·.2)) tg g wg)
    (ht : ∀ (Ag : Around) (s : Shared) (H : Hp) (C : Addr) (cl : List (Str × Addr)) (code : Value) (fp : List Addr) (pn : List (Addr × Obj)), Room k Ag → FTs (FLG.gbx X Ag s H scope (genEnv scope cl C code builtinsNs X.env) fp pn) L WF ifs tt wt)
    (he : ∀ (Ag : Around) (s : Shared) (H : Hp) (C : Addr) (cl : List (Str × Addr)) (code : Value) (fp : List Addr) (pn : List (Addr × Obj)), Room k Ag → FE (FLG.gbx X Ag s H scope (genEnv scope cl C code builtinsNs X.env) fp pn) L WF elt te we)
    (hc : X.calm = true := by rfl) (hgl : Gl X "any" := by rfl) (hs : ∀ v, genFold iter X.env v = pure v := by intro _; rfl) (hst : starEach [FLG.genX elt tg iter ifs scope gpos] X.env = (false, eval (FLG.genX elt tg iter ifs scope gpos) X.env) :: starEach [] X.env := by rfl) :
    FE X L W (.Call (.Name "any" p) [.GeneratorExp elt [⟨tg, iter, ifs, 0⟩] scope gpos] [] pos) (FLG.tQt true P wi g tt te (own.map (·.2))) (wAny wl wg wt we (own.map (·.2))) := by
  have rm : ∃ Ag, Room k Ag := ⟨X.A, hr.mono (Nat.le_succ k)⟩
  obtain ⟨Ag, rm⟩ := rm
  exact ⟨FLG.pe_anyG hc hN hr hgl hm hb ⟨TB.code, TB.bm, TB.gP⟩ hcode S ok hi.pe (fun Ag s H C cl code fp pn r => (hg Ag s H C cl code fp pn r).pe) (fun Ag s H C cl code fp pn r => (ht Ag s H C cl code fp pn r).pe) (fun Ag s H C cl code fp pn r => (he Ag s H C cl code fp pn r).pe) hs hst,
    snd_qt (c := true) (stp := stpAny) (fun A B z q => by cases z <;> simpa [stpAny] using q) hP hi.snd ⟨_, _, hg Ag X.s_0 X.H_0 0 [] .none [] [] rm, rfl⟩ (ht Ag X.s_0 X.H_0 0 [] .none [] [] rm).snd (he Ag X.s_0 X.H_0 0 [] .none [] [] rm).snd⟩
end
/-! ### plain forms -/
section
variable {wg : Wg} {wt : Wt} {we : We} {vs : List Nat} {ds : List D} {s : Sl}
/-- each test told by p -/
theorem all_by {Q : Bool → Prop} (p : D → Bool) (h : ∀ d ∈ ds, ∀ (A B : Prop), (p d = false → A) → (p d = true → B) → wg d (wipeS (lkS s) vs) fun s2 => wt s2 (fun c => cond c (we s2 (fun y => match y with | .bool z => cond z B A | _ => False) fun _ => False) B) fun _ => False)
    (hq : Q (ds.all p)) : wAllL wg wt we vs ds s Q := by
  refine ⟨fun i => ∀ d ∈ ds.take i, p d = true, by simp, fun i d e iv => ?_, fun iv => ?_⟩
  · refine h d (List.mem_of_getElem? e) _ _ (fun z => ?_) fun z => ?_
    · have : ds.all p = false := by
        rw [List.all_eq_false]
        exact ⟨d, List.mem_of_getElem? e, by rw [z]; decide⟩
      rw [this] at hq; exact hq
    · intro d' hd
      have hi := (List.getElem?_eq_some_iff.mp e).1
      rw [List.take_succ, e] at hd
      rcases List.mem_append.mp hd with hd | hd
      · exact iv d' hd
      · have : d' = d := by simpa using hd
        subst this; exact z
  · replace iv := iv
    dsimp only at iv
    rw [List.take_length] at iv
    have : ds.all p = true := List.all_eq_true.mpr iv
    rw [this] at hq; exact hq
theorem any_by {Q : Bool → Prop} (p : D → Bool) (h : ∀ d ∈ ds, ∀ (A B : Prop), (p d = true → A) → (p d = false → B) → wg d (wipeS (lkS s) vs) fun s2 => wt s2 (fun c => cond c (we s2 (fun y => match y with | .bool z => cond z A B | _ => False) fun _ => False) B) fun _ => False)
    (hq : Q (ds.any p)) : wAnyL wg wt we vs ds s Q := by
  refine ⟨fun i => ∀ d ∈ ds.take i, p d = false, by simp, fun i d e iv => ?_, fun iv => ?_⟩
  · refine h d (List.mem_of_getElem? e) _ _ (fun z => ?_) fun z => ?_
    · have : ds.any p = true := by
        rw [List.any_eq_true]
        exact ⟨d, List.mem_of_getElem? e, z⟩
      rw [this] at hq; exact hq
    · intro d' hd
      rw [List.take_succ, e] at hd
      rcases List.mem_append.mp hd with hd | hd
      · exact iv d' hd
      · have : d' = d := by simpa using hd
        subst this; exact z
  · replace iv := iv
    dsimp only at iv
    rw [List.take_length] at iv
    have : ds.any p = false := by
      rw [List.any_eq_false]
      intro d hd; rw [iv d hd]; decide
    rw [this] at hq; exact hq
/-- each item gives one or none -/
theorem lc_fm {Q : List D → Prop} (f : D → Option D) (hl : ds.length ≤ sizeLine)
    (h : ∀ d ∈ ds, ∀ (acc : List D) (J : List D → Prop), (f d = none → J acc) → (∀ y, f d = some y → acc.length < sizeLine ∧ J (acc ++ [y])) → wg d (wipeS (lkS s) vs) fun s2 => wt s2 (fun c => cond c (we s2 (fun y => acc.length < sizeLine ∧ J (acc ++ [y])) fun _ => False) (J acc)) fun _ => False)
    (hq : Q (ds.filterMap f)) : wLcL wg wt we vs ds s Q := by
  refine ⟨fun i acc => acc = (ds.take i).filterMap f, by simp, fun i d acc e iv => ?_, fun acc iv => ?_⟩
  · have hi := (List.getElem?_eq_some_iff.mp e).1
    refine h d (List.mem_of_getElem? e) acc (fun a => a = (ds.take (i + 1)).filterMap f) (fun z => ?_) fun y z => ⟨?_, ?_⟩
    · rw [List.take_succ, e, iv]; simp [z]
    · rw [iv]
      refine Nat.lt_of_le_of_lt (List.length_filterMap_le _ _) ?_
      rw [List.length_take]; omega
    · rw [List.take_succ, e, iv]; simp [z]
  · dsimp only at iv
    rw [List.take_length] at iv
    rw [iv]; exact hq
theorem lc_map {Q : List D → Prop} (f : D → D) (hl : ds.length ≤ sizeLine)
    (h : ∀ d ∈ ds, ∀ (acc : List D) (J : List D → Prop), acc.length < sizeLine ∧ J (acc ++ [f d]) → wg d (wipeS (lkS s) vs) fun s2 => wt s2 (fun c => cond c (we s2 (fun y => acc.length < sizeLine ∧ J (acc ++ [y])) fun _ => False) (J acc)) fun _ => False)
    (hq : Q (ds.map f)) : wLcL wg wt we vs ds s Q :=
  lc_fm (fun d => some (f d)) hl (fun d hd acc J _ h2 => h d hd acc J (h2 _ rfl)) (by rw [← List.filterMap_eq_map] at hq; exact hq)
theorem lc_filter {Q : List D → Prop} (p : D → Bool) (hl : ds.length ≤ sizeLine)
    (h : ∀ d ∈ ds, ∀ (acc : List D) (J : List D → Prop), (p d = false → J acc) → (p d = true → acc.length < sizeLine ∧ J (acc ++ [d])) → wg d (wipeS (lkS s) vs) fun s2 => wt s2 (fun c => cond c (we s2 (fun y => acc.length < sizeLine ∧ J (acc ++ [y])) fun _ => False) (J acc)) fun _ => False)
    (hq : Q (ds.filter p)) : wLcL wg wt we vs ds s Q := by
  refine lc_fm (fun d => if p d = true then some d else none) hl (fun d hd acc J h1 h2 => h d hd acc J (fun z => h1 (by simp [z])) fun z => h2 d (by simp [z])) ?_
  rw [show ds.filterMap (fun d => if p d = true then some d else none) = ds.filter p from by rw [← List.filterMap_eq_filter]; rfl]
  exact hq
end
section
variable {c : Cel} {s : Sl} {Q : D → Prop} {R : Value → Prop}
theorem u_wipe0 {s : Sl} : wipeS s [] = s := rfl
theorem u_wipe1 {s : Sl} {v : Nat} {vs : List Nat} : wipeS s (v :: vs) = (wipeS s vs).set v .no := rfl
theorem u_lk0 : lkS [] = [] := rfl
theorem u_lk1 : lkS (c :: s) = lkC c :: lkS s := rfl
end
/-- the end, its tables told by what the top has left -/
theorem walk_ofTt {l : PySem.W.OpenLaw} {n k : Nat} {q : Program} {loose : List Str} {XP : (Str → Option Value) → Heap → Prop} {YP : World → Heap → Prop} {d : DefRec} {K : Params → PySem.W.Frag} {CX : World → CXT} {x : Str}
    (hn : l.most = some n) (hn2 : n ≤ sizeLine) (hdf : d.params.defaults = []) (hr : Room k callerA) (hY : ∀ (w : World) (h : Heap), YP w h → (K w.params).In h)
    (F : ∀ (w : World) (mg mb : Str → Option Value) (fa : Addr) (h : Heap) (mean : ExcName → Option Value), YP w h → (K w.params).In h → Top q (PySem.W.looseW q loose) mean mg mb h → h.Ns mainGlobals mg → mg d.name = some (.ref fa) → LamX.LawAtS l w (K w.params) (CX w) k n x mg fa h)
    (hCX : ∀ (w : World) (H : Hp) (s : Shared) (e : Value) (s' : Shared), CX w [] H s (fun _ _ _ => False) e s' → False) :
    PySem.W.WalkO q loose XP YP l.row.toRowW d [] (fun f vs => PySem.call f vs) := by
  refine Att.attach_callB hn hdf fun w s₀ s₁ mg mb fa o pm cd doc a vs ns G Y ho hd hcd hmg hobj hints hlen hbits hg => ?_
  have KX := hY w _ Y
  obtain ⟨fd, cs, sp, hT, nT, C, hb, hsp, hF⟩ := F w mg mb fa _ _ Y KX G.T G.T.g hmg
  exact LamX.law_callTs KX G.T.g G.T.b G.T.builtins G.T.nolimit hg hT nT C G.T.bmain hobj hints (Nat.le_trans hlen hn2) hr hF hb (fun H hH hS => hsp H a ns hlen hbits hH hS) fun H e s' => hCX w H s₁ e s'
end FL

/-! FL14: slices, repetition, in, sums, stars, items written. -/
namespace FL
open PySem PySem.Spec PyProof.Rows L2
/-! ### slices -/
abbrev Wo := Sl → (Option Int → Prop) → (Value → Prop) → Prop
structure FO (X : Cx) (L : Lw) (W : WX) (e : Option Expr) (t : TO) (w : Wo) : Prop where
  pe : PO X e t
  snd : ∀ (b : Beg) (F : Hp) (s : Sl) (σ : L2.St) (H : Hp) (Q : Option Int → Prop) (R : Value → Prop) (k : Option Int → Hp → Prop), Rel X.K L b F s σ H → w s Q R → Exw X.K L W b F s σ R →
    (∀ F' o H', Rel X.K L b F' s σ H' → Same F F' → Kp b H H' → Q o → k o H') → t σ H k
def wO0 : Wo := fun _ Q _ => Q none
def wO1 (wa : We) : Wo := fun s Q R => wa s (fun d => match d with | .int i => Q (some i) | _ => False) R
def cutL {α : Type} (xs : List α) (lo hi : Option Int) : List α := (xs.drop (HT.sIx xs.length 0 lo)).take (HT.sIx xs.length xs.length hi - HT.sIx xs.length 0 lo)
def dSl : D → Option Int → Option Int → (D → Prop) → Prop := fun d lo hi Q => match d with
  | .list ds => Q (.list (cutL ds lo hi))
  | .tuple ds => Q (.tuple (cutL ds lo hi))
  | .str z => z.length ≤ sizeLine ∧ Q (.str (cutS z lo hi))
  | _ => False
def wSl (wa : We) (wl wh : Wo) : We := fun s Q R => wa s (fun d => wl s (fun lo => wh s (fun hi => dSl d lo hi Q) R) R) R
def wSlN (wa : We) (wl wh : Wo) : Wl := fun s Q R => wa s (fun d => wl s (fun lo => wh s (fun hi => match d with | .list ds => Q (cutL ds lo hi) | _ => False) R) R) R
abbrev rSlD (K : PySem.W.Frag) : V → Option Int → Option Int → Hp → VK → Prop := fun x lo hi H Q => rSlL K x lo hi H Q ∨ (rSlA K x lo hi H Q ∨ rSlS x lo hi H Q)
theorem cutL_le {α : Type} (xs : List α) (lo hi : Option Int) : (cutL xs lo hi).length ≤ xs.length := by
  unfold cutL
  rw [List.length_take, List.length_drop]
  omega
section
variable {X : Cx} {L : Lw} {W : WX} {pos p p2 : Pos} {a c e : Expr} {ta tb te : TE} {wa wb we : We} {lo hi : Option Expr} {tl th : TO} {ol oh : Wo} {es : List Expr} {t : TA} {wl : Wl}
theorem fo_none : FO X L W none tNoPart wO0 := ⟨po_none, fun b F s σ H Q R k I h hx kk => kk F none H I (Same.refl F) Kp.refl h⟩
theorem fo_some (h : FE X L W a ta wa) : FO X L W (some a) (tPart ta) (wO1 wa) := by
  refine ⟨po_some h.pe, fun b F s σ H Q R k I q hx kk => ?_⟩
  refine h.snd b F s σ H _ R _ I q hx fun F1 d v H1 I1 m1 k1 r1 q1 => ?_
  split at q1
  · cases r1
    exact ⟨_, rfl, kk F1 _ H1 I1 m1 k1 q1⟩
  · exact q1.elim
theorem dps_cut {K : PySem.W.Frag} {H : Hp} {vs : List V} {ds : List D} (h : DtAll K H vs ds) (lo hi : Option Int) : DtAll K H (cutV vs lo hi) (cutL ds lo hi) := by
  unfold cutV cutL
  rw [dps_len h]
  exact dps_take _ (dps_drop _ h)
theorem fe_sl (ha : FB X L W a ta wa) (hl : FO X L W lo tl ol) (hh : FO X L W hi th oh) : FE X L W (.Subscript a (.Slice lo hi none p2) pos) (tSl (rSlD X.K) ta tl th) (wSl wa ol oh) := by
  refine ⟨pe_slice (sl_list.or (sl_tupA.or sl_str)) ha.pe hl.pe hh.pe, fun b F s σ H Q R k I h hx kk => ?_⟩
  refine ha.snd b F s σ H _ R _ I h hx fun F1 d v H1 I1 m1 k1 r1 h1 => ?_
  refine hl.snd b F1 s σ H1 _ R _ I1 h1 (hx.mono m1) fun F2 lo H2 I2 m2 k2 h2 => ?_
  refine hh.snd b F2 s σ H2 _ R _ I2 h2 (hx.mono (m1.trans m2)) fun F3 hi H3 I3 m3 k3 h3 => ?_
  have r3 := r1.keep (m2.trans m3) (k2.trans k3)
  have m := m1.trans (m2.trans m3)
  have kp := k1.trans (k2.trans k3)
  unfold dSl at h3
  split at h3
  · rename_i ds
    have lay : ∀ {vs : List V}, DtAll X.K F3 vs ds → ∀ z, H3 z = none → k (.ref z) (upd H3 z (.lst (cutV vs lo hi))) := fun {vs} r z hz =>
      kk _ _ _ _ (I3.new1 hz (fun ps y => by cases y)) (m.trans (same_upd (I3.f_none hz))) (kp.trans (Kp.of (same_upd hz))) (.lst (.inl (.inl upd_same)) (dps_mono (same_upd (I3.f_none hz)) (dps_cut r lo hi))) h3
    rcases r3 with r3 | ⟨x, vs, ds', rfl, e2, e3, e4, e5⟩
    · cases r3 with
      | lst q1 q2 => exact .inl ⟨_, _, rfl, I3.sub.seq q1, lay q2⟩
    · cases e2
      exact .inl ⟨_, _, rfl, .inl (.inl e4), lay e5⟩
  · rename_i ds
    rcases r3 with r3 | ⟨x, vs, ds', rfl, e2, e3, e4, e5⟩
    · cases r3 with
      | tup q1 q2 =>
        rename_i x vs
        refine .inr (.inl ⟨_, _, rfl, same_sqT I3.sub q1, fun e => ?_, fun e z hz => ?_⟩)
        · rw [dps_len q2] at e
          refine kk F3 _ _ H3 I3 m kp (.tup q1 q2) ?_
          have : cutL ds lo hi = ds := by
            unfold cutL
            rw [e.1, e.2, List.drop_zero, Nat.sub_zero, List.take_length]
          rw [this] at h3; exact h3
        · exact kk _ _ _ _ (I3.new1 hz (fun ps y => by cases y)) (m.trans (same_upd (I3.f_none hz))) (kp.trans (Kp.of (same_upd hz))) (.tup (.inl (.inl upd_same)) (dps_mono (same_upd (I3.f_none hz)) (dps_cut q2 lo hi))) h3
    · cases e2
  · rcases r3 with r3 | ⟨x, vs, ds', rfl, e2, e3, e4, e5⟩
    · cases r3
      exact .inr (.inr ⟨_, rfl, h3.1, kk F3 _ _ H3 I3 m kp (.str _) h3.2⟩)
    · cases e2
  · exact h3.elim
theorem fn_sl (ha : FB X L W a ta wa) (hl : FO X L W lo tl ol) (hh : FO X L W hi th oh) : FN X L W (.Subscript a (.Slice lo hi none p2) pos) (tSl (rSlL X.K) ta tl th) (wSlN wa ol oh) := by
  refine ⟨pe_slice sl_list ha.pe hl.pe hh.pe, fun b F s σ H Q R k I h hx kk => ?_⟩
  refine ha.snd b F s σ H _ R _ I h hx fun F1 d v H1 I1 m1 k1 r1 h1 => ?_
  refine hl.snd b F1 s σ H1 _ R _ I1 h1 (hx.mono m1) fun F2 lo H2 I2 m2 k2 h2 => ?_
  refine hh.snd b F2 s σ H2 _ R _ I2 h2 (hx.mono (m1.trans m2)) fun F3 hi H3 I3 m3 k3 h3 => ?_
  have r3 := r1.keep (m2.trans m3) (k2.trans k3)
  split at h3
  · rename_i ds
    have lay : ∀ {vs : List V}, DtAll X.K F3 vs ds → ∀ z, H3 z = none → k (.ref z) (upd H3 z (.lst (cutV vs lo hi))) := fun {vs} r z hz =>
      kk F3 _ z _ _ (I3.lay hz) (m1.trans (m2.trans m3)) ((k1.trans (k2.trans k3)).trans (Kp.of (same_upd hz))) (fresh_at I3 hz) upd_same (dps_cut r lo hi) h3
    rcases r3 with r3 | ⟨x, vs, ds', rfl, e2, e3, e4, e5⟩
    · cases r3 with
      | lst q1 q2 => exact ⟨_, _, rfl, I3.sub.seq q1, lay q2⟩
    · cases e2
      exact ⟨_, _, rfl, .inl (.inl e4), lay e5⟩
  · exact h3.elim
/-! ### [..] * n, (..) * n -/
def wRepN (wl : Wl) (wb : We) : Wl := fun s Q R => wl s (fun ds => wb s (fun y => match y with | .int n => n < 2 ^ 62 ∧ -(2 ^ 62) ≤ n ∧ ds.length * n.toNat ≤ sizeLine ∧ Q (List.replicate n.toNat ds).flatten | _ => False) R) R
theorem dps_rep {K : PySem.W.Frag} {H : Hp} {vs : List V} {ds : List D} (h : DtAll K H vs ds) : ∀ n : Nat, DtAll K H (List.replicate n vs).flatten (List.replicate n ds).flatten
  | 0 => .nil
  | n + 1 => by
    rw [List.replicate_succ, List.replicate_succ, List.flatten_cons, List.flatten_cons]
    exact dps_app h (dps_rep h n)
theorem fn_rep (ha : FN X L W a ta wl) (hb : FE X L W c tb wb) : FN X L W (.BinOp a .Mult c pos) (tOp rRep ta tb) (wRepN wl wb) := by
  refine ⟨pe_op op_rep ha.pe hb.pe, fun b F s σ H Q R k I h hx kk => ?_⟩
  refine ha.snd b F s σ H _ R _ I h hx fun F1 ds q vs H1 I1 m1 k1 fr e1 r1 h1 => ?_
  refine hb.snd b F1 s σ H1 _ R _ I1 h1 (hx.mono m1) fun F2 d2 v2 H2 I2 m2 k2 r2 h2 => ?_
  split at h2
  · cases r2
    have e2 := k2 q _ e1 fr.hd fun ps z => by cases z
    have r3 := dps_mono m2 r1
    refine ⟨q, _, vs, rfl, rfl, e2, by omega, by omega, by rw [dps_len r3]; exact h2.2.2.1, fun z hz => ?_⟩
    exact kk F2 _ z _ _ (I2.lay hz) (m1.trans m2) ((k1.trans k2).trans (Kp.of (same_upd hz))) (fresh_at I2 hz) upd_same (dps_rep r3 _) h2.2.2.2
  · exact h2.elim
def wRepT (wa wb : We) : We := fun s Q R => wa s (fun x => wb s (fun y => match x, y with | .tuple ds, .int n => ds ≠ [] ∧ 2 ≤ n ∧ n ≤ 1000 ∧ ds.length ≤ 1000 ∧ Q (.tuple (List.replicate n.toNat ds).flatten) | _, _ => False) R) R
theorem fe_repT (ha : FE X L W a ta wa) (hb : FE X L W c tb wb) : FE X L W (.BinOp a .Mult c pos) (tOp (rRepT X.K) ta tb) (wRepT wa wb) := by
  refine ⟨pe_op op_repT ha.pe hb.pe, fun b F s σ H Q R k I h hx kk => ?_⟩
  refine ha.snd b F s σ H _ R _ I h hx fun F1 d v H1 I1 m1 k1 r1 h1 => ?_
  refine hb.snd b F1 s σ H1 _ R _ I1 h1 (hx.mono m1) fun F2 d2 v2 H2 I2 m2 k2 r2 h2 => ?_
  split at h2
  · cases r2
    cases r1 with
    | tup q1 q2 =>
      obtain ⟨n0, n1, n2, n3, q⟩ := h2
      have r3 := dps_mono m2 q2
      refine ⟨_, _, _, rfl, rfl, same_sqT I2.sub (same_sqT m2 q1), fun z => n0 ?_, n1, n2, by rw [dps_len r3]; exact n3, fun z hz => ?_⟩
      · have := dps_len r3
        rw [z] at this
        exact List.eq_nil_of_length_eq_zero this.symm
      · exact kk _ _ _ _ (I2.new1 hz (fun ps y => by cases y)) ((m1.trans m2).trans (same_upd (I2.f_none hz))) ((k1.trans k2).trans (Kp.of (same_upd hz))) (.tup (.inl (.inl upd_same)) (dps_mono (same_upd (I2.f_none hz)) (dps_rep r3 _))) q
  · exact h2.elim
/-! ### in, not in -/
/-- among the items of a list, laid as data -/
def inOk (d : D) (ds : List D) : Prop := SeqAt.shaped d = true ∧ SeqAt.shaped (.list ds) = true
def inD (d : D) (ds : List D) : Bool := ds.any fun z => PyData.eqv z d
def flatD : D → Bool
  | .none => true
  | .bool _ => true
  | .int _ => true
  | .str _ => true
  | _ => false
def dIn (f : Bool → Bool) : D → D → (Bool → Prop) → Prop := fun d e Q => match e with
  | .list ds => inOk d ds ∧ Q (f (inD d ds))
  | .tuple ds => (flatD d = true ∧ ds.all flatD = true) ∧ Q (f (inD d ds))
  | _ => False
abbrev rInA (K : PySem.W.Frag) : R2 := fun x y H Q => rInD K x y H Q ∨ rIn K false x y H Q
abbrev rNotInA (K : PySem.W.Frag) : R2 := fun x y H Q => rNotInD K x y H Q ∨ rIn K true x y H Q
theorem op_inA {k : Nat} (hr : Room k X.A) : OpR X (compareOp .In) (rInA X.K) := (op_inD (by have := hr.un; omega)).or op_in_seq
theorem op_notInA {k : Nat} (hr : Room k X.A) : OpR X (compareOp .NotIn) (rNotInA X.K) := (op_notInD (by have := hr.un; omega)).or op_notIn_seq
theorem flat_of {K : PySem.W.Frag} {H : Hp} {x : V} {d : D} (h : Dt K H x d) (f : flatD d = true) : flatV x = true := by
  cases h with
  | lst _ _ => cases f
  | tup _ _ => cases f
  | _ => rfl
theorem eqv_flat {K : PySem.W.Frag} {H : Hp} {x y : V} {d e : D} (hx : Dt K H x d) (hy : Dt K H y e) (fx : flatD d = true) (fy : flatD e = true) : eqV x y = PyData.eqv d e := by
  cases hx with
  | lst _ _ => cases fx
  | tup _ _ => cases fx
  | _ =>
    cases hy with
    | lst _ _ => cases fy
    | tup _ _ => cases fy
    | _ => first | rfl | (rw [PyData.eqv]; rfl) | (simp [PyData.eqv, eqV])
theorem in_flat {K : PySem.W.Frag} {H : Hp} {x : V} {d : D} (hx : Dt K H x d) (fx : flatD d = true) : ∀ {vs : List V} {ds : List D}, DtAll K H vs ds → ds.all flatD = true → vs.all flatV = true ∧ inV x vs = inD d ds
  | _, [], h, _ => by cases h; exact ⟨rfl, rfl⟩
  | _, e :: ds, h, f => by
    cases h with
    | cons h1 h2 =>
      rw [List.all_cons, Bool.and_eq_true] at f
      obtain ⟨g1, g2⟩ := in_flat hx fx h2 f.2
      refine ⟨by rw [List.all_cons, g1, flat_of h1 f.1]; rfl, ?_⟩
      unfold inV inD at g2 ⊢
      rw [List.any_cons, List.any_cons, g2, eqv_flat h1 hx f.1 fx]
theorem snd_in {f : Bool → Bool} {r : R2} (hr : ∀ (H : Hp) (x y : V) (d : D) (ds : List D) (Q : VK), Dt X.K H x d → Dt X.K H y (.list ds) → inOk d ds → Q (.bl (f (inD d ds))) H → r x y H Q)
    (ht : ∀ (H : Hp) (x : V) (a : Addr) (vs : List V) (d : D) (ds : List D) (Q : VK), Dt X.K H x d → SqT X.K H a vs → DtAll X.K H vs ds → flatD d = true → ds.all flatD = true → Q (.bl (f (inD d ds))) H → r x (.ref a) H Q)
    (b : Beg) (F : Hp) (s : Sl) (σ : L2.St) (H : Hp) (x y : V) (d e : D) (Q : Bool → Prop) (k : VK) (I : Rel X.K L b F s σ H) (hx : DpB X.K b F H x d) (hy : DpB X.K b F H y e) (q : dIn f d e Q) (kk : ∀ c, Q c → k (.bl c) H) : r x y H k := by
  unfold dIn at q
  split at q
  · exact hr H x y d _ k (hx.at I.sub) (hy.at I.sub) q.1 (kk _ q.2)
  · have hy' := hy.at I.sub
    cases hy' with
    | tup q1 q2 => exact ht H x _ _ d _ k (hx.at I.sub) q1 q2 q.1.1 q.1.2 (kk _ q.2)
  · exact q.elim
theorem fe_in {k : Nat} (hr : Room k X.A) (ha : FE X L W a ta wa) (hb : FB X L W c tb wb) (hm : behindInMarks .In c = false := by rfl) : FE X L W (.Compare a [.In] [c] pos) (tOp (rInA X.K) ta tb) (wCmpV (dIn fun b => b) wa wb) := by
  refine ⟨pe_cmpR (op_inA hr) ha.pe hb.pe hm, fun b F s σ H Q R k I h hx kk => ?_⟩
  refine ha.snd b F s σ H _ R _ I h hx fun F1 d1 v1 H1 I1 m1 k1 r1 h1 => ?_
  refine hb.snd b F1 s σ H1 _ R _ I1 h1 (hx.mono m1) fun F2 d2 v2 H2 I2 m2 k2 r2 h2 => ?_
  exact snd_in (f := fun b => b) (fun H x y d ds Q h1 h2 h3 q => .inl ⟨d, ds, dt_dp h1, dt_dp h2, h3.1, h3.2, q⟩) (fun H x a vs d ds Q h1 h2 h3 f1 f2 q => .inr ⟨a, vs, rfl, .inr h2, flat_of h1 f1, (in_flat h1 f1 h3 f2).1, by first | (rw [if_neg (by decide), (in_flat h1 f1 h3 f2).2]; exact q) | (rw [if_pos rfl, (in_flat h1 f1 h3 f2).2]; exact q)⟩) b F2 s σ H2 v1 v2 d1 d2 _ k I2 (.inl (dp_mono m2 r1)) r2 h2 fun z q => kk F2 _ _ H2 I2 (m1.trans m2) (k1.trans k2) (.bl z) q
theorem fe_notin {k : Nat} (hr : Room k X.A) (ha : FE X L W a ta wa) (hb : FB X L W c tb wb) (hm : behindInMarks .NotIn c = false := by rfl) : FE X L W (.Compare a [.NotIn] [c] pos) (tOp (rNotInA X.K) ta tb) (wCmpV (dIn fun b => !b) wa wb) := by
  refine ⟨pe_cmpR (op_notInA hr) ha.pe hb.pe hm, fun b F s σ H Q R k I h hx kk => ?_⟩
  refine ha.snd b F s σ H _ R _ I h hx fun F1 d1 v1 H1 I1 m1 k1 r1 h1 => ?_
  refine hb.snd b F1 s σ H1 _ R _ I1 h1 (hx.mono m1) fun F2 d2 v2 H2 I2 m2 k2 r2 h2 => ?_
  exact snd_in (f := fun b => !b) (fun H x y d ds Q h1 h2 h3 q => .inl ⟨d, ds, dt_dp h1, dt_dp h2, h3.1, h3.2, q⟩) (fun H x a vs d ds Q h1 h2 h3 f1 f2 q => .inr ⟨a, vs, rfl, .inr h2, flat_of h1 f1, (in_flat h1 f1 h3 f2).1, by first | (rw [if_neg (by decide), (in_flat h1 f1 h3 f2).2]; exact q) | (rw [if_pos rfl, (in_flat h1 f1 h3 f2).2]; exact q)⟩) b F2 s σ H2 v1 v2 d1 d2 _ k I2 (.inl (dp_mono m2 r1)) r2 h2 fun z q => kk F2 _ _ H2 I2 (m1.trans m2) (k1.trans k2) (.bl z) q
theorem ft_in {k : Nat} (hr : Room k X.A) (ha : FE X L W a ta wa) (hb : FB X L W c tb wb) (hm : behindInMarks .In c = false := by rfl) : FT X L W (.Compare a [.In] [c] pos) (tTest (tOp (rInA X.K) ta tb)) (wCmpT (dIn fun b => b) wa wb) := by
  refine ⟨pt_cmpR (op_inA hr) ha.pe hb.pe hm, fun b F s σ H Q R k I h hx kk => ?_⟩
  refine ha.snd b F s σ H _ R _ I h hx fun F1 d1 v1 H1 I1 m1 k1 r1 h1 => ?_
  refine hb.snd b F1 s σ H1 _ R _ I1 h1 (hx.mono m1) fun F2 d2 v2 H2 I2 m2 k2 r2 h2 => ?_
  exact snd_in (f := fun b => b) (fun H x y d ds Q h1 h2 h3 q => .inl ⟨d, ds, dt_dp h1, dt_dp h2, h3.1, h3.2, q⟩) (fun H x a vs d ds Q h1 h2 h3 f1 f2 q => .inr ⟨a, vs, rfl, .inr h2, flat_of h1 f1, (in_flat h1 f1 h3 f2).1, by first | (rw [if_neg (by decide), (in_flat h1 f1 h3 f2).2]; exact q) | (rw [if_pos rfl, (in_flat h1 f1 h3 f2).2]; exact q)⟩) b F2 s σ H2 v1 v2 d1 d2 _ _ I2 (.inl (dp_mono m2 r1)) r2 h2 fun z q => ⟨z, rfl, kk F2 z H2 I2 (m1.trans m2) (k1.trans k2) q⟩
theorem ft_notin {k : Nat} (hr : Room k X.A) (ha : FE X L W a ta wa) (hb : FB X L W c tb wb) (hm : behindInMarks .NotIn c = false := by rfl) : FT X L W (.Compare a [.NotIn] [c] pos) (tTest (tOp (rNotInA X.K) ta tb)) (wCmpT (dIn fun b => !b) wa wb) := by
  refine ⟨pt_cmpR (op_notInA hr) ha.pe hb.pe hm, fun b F s σ H Q R k I h hx kk => ?_⟩
  refine ha.snd b F s σ H _ R _ I h hx fun F1 d1 v1 H1 I1 m1 k1 r1 h1 => ?_
  refine hb.snd b F1 s σ H1 _ R _ I1 h1 (hx.mono m1) fun F2 d2 v2 H2 I2 m2 k2 r2 h2 => ?_
  exact snd_in (f := fun b => !b) (fun H x y d ds Q h1 h2 h3 q => .inl ⟨d, ds, dt_dp h1, dt_dp h2, h3.1, h3.2, q⟩) (fun H x a vs d ds Q h1 h2 h3 f1 f2 q => .inr ⟨a, vs, rfl, .inr h2, flat_of h1 f1, (in_flat h1 f1 h3 f2).1, by first | (rw [if_neg (by decide), (in_flat h1 f1 h3 f2).2]; exact q) | (rw [if_pos rfl, (in_flat h1 f1 h3 f2).2]; exact q)⟩) b F2 s σ H2 v1 v2 d1 d2 _ _ I2 (.inl (dp_mono m2 r1)) r2 h2 fun z q => ⟨z, rfl, kk F2 z H2 I2 (m1.trans m2) (k1.trans k2) q⟩
/-! ### gcd, sum -/
def dGcd : List D → (D → Prop) → Prop := fun ds Q => match ds with
  | [.int i, .int j] => Q (.int ((Nat.gcd i.natAbs j.natAbs : Nat) : Int))
  | _ => False
theorem fe_gcd {x : Str} (hm : X.mg x = some (.builtin "math.gcd")) (ha : FLs X L W (e :: es) t wl) (hg : Gl X x := by rfl) (hdb : (x == ("__debug__" : Str)) = false := by decide)
    (he : starEach (e :: es) X.env = (false, eval e X.env) :: starEach es X.env := by rfl) (hpl : (backTo pos (starEach es X.env)).any (·.1) = false := by rfl) : FE X L W (.Call (.Name x p) (e :: es) [] pos) (tCB rGcd t) (wCal dGcd wl) := by
  refine ⟨pe_callBfun cr_gcd hg hm ha.pe hdb he hpl, fun b F s σ H Q R k I h hx kk => ?_⟩
  refine ha.snd b F s σ H _ R _ I h hx fun F1 ds vs H1 I1 m1 k1 r1 q => ?_
  unfold dGcd at q
  split at q
  · cases r1 with
    | cons h1 h2 =>
      cases h1
      cases h2 with
      | cons h2 h3 =>
        cases h2
        cases h3
        exact ⟨_, _, rfl, kk F1 _ _ H1 I1 m1 k1 (.int _) q⟩
  · exact q.elim
/-- the ints of a row of ints -/
def intsD : List D → Option (List Int)
  | [] => some []
  | .int i :: ds => (intsD ds).map (i :: ·)
  | _ :: _ => none
theorem intsD_some : ∀ {ds : List D} {ns : List Int}, intsD ds = some ns → ds = ns.map .int
  | [], _, h => by cases h; rfl
  | .int i :: ds, _, h => by
    unfold intsD at h
    cases q : intsD ds with
    | none => rw [q] at h; cases h
    | some ms => rw [q] at h; cases h; rw [List.map_cons, ← intsD_some q]
  | .none :: _, _, h => by cases h
  | .bool _ :: _, _, h => by cases h
  | .str _ :: _, _, h => by cases h
  | .list _ :: _, _, h => by cases h
  | .tuple _ :: _, _, h => by cases h
  | .dict _ :: _, _, h => by cases h
theorem intsD_map : ∀ ns : List Int, intsD (ns.map .int) = some ns
  | [] => rfl
  | n :: ns => by rw [List.map_cons, intsD, intsD_map ns]; rfl
/-- a list of ints, told by them -/
def dIntsL (w : List Int → (D → Prop) → Prop) : D → (D → Prop) → Prop := fun d Q => match d with
  | .list ds => ∃ ns : List Int, ds = ns.map .int ∧ w ns Q
  | _ => False
theorem calb_ints {f : Value} {r : List V → Hp → VK → Prop} {w : List Int → (D → Prop) → Prop} (o : CallR X f r)
    (h : ∀ (F H : Hp) (a : Addr) (ns : List Int) (Q : D → Prop) (k : VK), SqL X.K H a (ns.map V.int) → w ns Q → (∀ c v, (∀ F, Dt X.K F v c) → Q c → k v H) → r [.ref a] H k) : CalB X L f r (dIntsL w) := by
  refine ⟨o, fun b F s σ H v d Q k I hv q kk => ?_⟩
  unfold dIntsL at q
  split at q
  · obtain ⟨ns, rfl, q⟩ := q
    rcases hv with hv | ⟨a, vs, ds', rfl, e2, e3, e4, e5⟩
    · cases hv with
      | lst q1 q2 =>
        have e := dps_ints q2
        subst e
        exact h F H _ ns Q k (I.sub.seq q1) q fun c v r z => kk F c v H I (Same.refl F) Kp.refl (r F) z
    · cases e2
      have e := dps_ints e5
      subst e
      exact h F H _ ns Q k (.inl (.inl e4)) q fun c v r z => kk F c v H I (Same.refl F) Kp.refl (r F) z
  · exact q.elim
theorem cal_sum (hc : X.calm = true := by rfl) : CalB X L (.builtin "sum") (rSum X.K) (dIntsL fun ns Q => Q (.int ns.sum)) :=
  calb_ints (cr_sum hc) fun F H a ns Q k h q kk => ⟨a, ns, rfl, h, kk _ _ (fun _ => .int _) q⟩
def dMaxL : List Int → (D → Prop) → Prop := fun ns Q => 0 < ns.length ∧ ∀ m, m ∈ ns → (∀ y, y ∈ ns → y ≤ m) → Q (.int m)
def dMinL : List Int → (D → Prop) → Prop := fun ns Q => 0 < ns.length ∧ ∀ m, m ∈ ns → (∀ y, y ∈ ns → m ≤ y) → Q (.int m)
theorem cal_max1 (hc : X.calm = true := by rfl) : CalB X L (.builtin "max") (rMax X.K) (dIntsL dMaxL) :=
  calb_ints (cr_max hc) fun F H a ns Q k h q kk => ⟨a, ns, rfl, h, q.1, fun m h1 h2 => kk _ _ (fun _ => .int _) (q.2 m h1 h2)⟩
theorem cal_min1 (hc : X.calm = true := by rfl) : CalB X L (.builtin "min") (rMin X.K) (dIntsL dMinL) :=
  calb_ints (cr_min hc) fun F H a ns Q k h q kk => ⟨a, ns, rfl, h, q.1, fun m h1 h2 => kk _ _ (fun _ => .int _) (q.2 m h1 h2)⟩
/-! ### (*xs, x) -/
def wStar (wa : We) (wr : Wl) : Wl := fun s Q R => wa s (fun d => match d with
  | .list ds => wr s (fun es => Q (ds ++ es)) R
  | .tuple ds => wr s (fun es => Q (ds ++ es)) R
  | _ => False) R
theorem fl_star (ha : FE X L W a ta wa) (hr : FLs X L W es t wl) (hs : starEach (.Starred a p :: es) X.env = (true, eval a X.env) :: starEach es X.env := by rfl) : FLs X L W (.Starred a p :: es) (StX.tStar X.K ta t) (wStar wa wl) := by
  refine ⟨StX.pa_star ha.pe hr.pe hs, fun b F s σ H Q R k I h hx kk => ?_⟩
  refine ha.snd b F s σ H _ R _ I h hx fun F1 d1 v1 H1 I1 m1 k1 r1 h1 => ?_
  split at h1
  · cases r1 with
    | lst q1 q2 => exact ⟨_, _, rfl, .inr (I1.sub.seq q1), hr.snd b F1 s σ H1 _ R _ I1 h1 (hx.mono m1) fun F2 ds vs H2 I2 m2 k2 r2 h2 => kk F2 _ _ H2 I2 (m1.trans m2) (k1.trans k2) (dps_app (dps_mono m2 q2) r2) h2⟩
  · cases r1 with
    | tup q1 q2 => exact ⟨_, _, rfl, .inl (same_sqT I1.sub q1), hr.snd b F1 s σ H1 _ R _ I1 h1 (hx.mono m1) fun F2 ds vs H2 I2 m2 k2 r2 h2 => kk F2 _ _ H2 I2 (m1.trans m2) (k1.trans k2) (dps_app (dps_mono m2 q2) r2) h2⟩
  · exact h1.elim
end
end FL

/-! FL15: items written; draws of the second kind. -/
namespace FL
open PySem PySem.Spec PyProof.Rows L2
section
variable {X : Cx} {L : Lw} {W : WX} {pos p p2 p3 : Pos} {a c e : Expr} {ta tb te : TE} {wa wb we : We} {wl : Wl}
theorem dps_setN {K : PySem.W.Frag} {H : Hp} {vs : List V} {ds : List D} {v : V} {d : D} (h : DtAll K H vs ds) (q : Dt K H v d) (i : Nat) : DtAll K H (vs.set i v) (ds.set i d) := dps_set q i h
/-- xs[i] = v, xs a list of the def's own -/
def wSeti (i : Nat) (wv wi : We) : Ws := fun s E => match s[i]? with
  | some (.ow ds) => wv s (fun d => wi s (fun j => match j with
    | .int j => ∃ n, ixN ds.length j = some n ∧ E.nx (s.set i (.ow (ds.set n d)))
    | _ => False) E.ex) E.ex
  | _ => False
theorem fs_seti (i : Nat) {x : Str} (ha : FE X L W a ta wa) (hi : FE X L W c tb wb) (hN : X.N[i]? = some x := by rfl) (hv : Vis X.env.scope x := by first | exact Or.inl rfl | exact Or.inr (Or.inl rfl) | exact Or.inr (Or.inr rfl)) (hd : (x == ("__debug__" : Str)) = false := by decide)
    (hcd : (x == ("__classdict__" : Str)) = false := by decide)
    (hA : ∀ v, assign (.Subscript (.Name x p) c p2) X.env v = (do
      let ov ← holding [v] (eval (.Name x p) X.env)
      let iv ← holding [v, ov] (eval c X.env)
      standAt p2
      holding [v, ov, iv] (setItem ov iv v)
      release [v, ov, iv] []) := by intro _; rfl)
    (hs : swapsWithSole [.Subscript (.Name x p) c p2] a pos.line X.env = pure false := by rfl) (hw : swappedStores [.Subscript (.Name x p) c p2] a X.env = pure none := by rfl)
    (h1 : (assignEach [.Subscript (.Name x p) c p2] X.env).map (·.2) = [assign (.Subscript (.Name x p) c p2) X.env] := by rfl) :
    FS X L W (.Assign [.Subscript (.Name x p) c p2] a pos) (tAsg ta (gSub (tVar i) tb rSetL)) (wSeti i wa wb) := by
  refine ⟨ps_asg ha.pe (pg_sub (pv i hN hv hd hcd) hi.pe set_list hA) hs hw h1, fun b F s σ H E D' I h ok => ?_⟩
  unfold wSeti at h
  split at h
  · rename_i ds q
    refine ha.snd b F s σ H _ E.ex _ I h ok.exw fun F1 d v H1 I1 m1 k1 r1 q1 => ?_
    obtain ⟨a, vs, e1, _⟩ := slot_ref I1 q
    refine ⟨_, e1, hi.snd b F1 s σ H1 _ E.ex _ I1 q1 (ok.mono m1).exw fun F2 j vj H2 I2 m2 k2 r2 q2 => ?_⟩
    obtain ⟨a', vs', e1', h0, hd1, hf, hh, hs1⟩ := slot_ref I2 q
    rw [e1] at e1'
    cases e1'
    split at q2
    · cases r2
      obtain ⟨n, hn, q3⟩ := q2
      exact ⟨a, vs', _, n, rfl, rfl, hh, by rw [dps_len hs1]; exact hn, ok.nx F2 _ _ _ (I2.grow q e1 (dps_set (dp_mono m2 r1) n hs1)) (m1.trans m2) q3⟩
    · exact q2.elim
  · exact h.elim
theorem ix_lt {n j : Nat} (h : j < n) : ixN n (j : Int) = some j := by
  unfold ixN
  rw [if_pos (by omega), if_pos (by omega)]
  simp
/-- the draws are written -/
theorem Rel.drset {b : Beg} {F : Hp} {s : Sl} {σ : L2.St} {H : Hp} {p : Addr} {vs us : List V} {es : List D} (I : Rel X.K L b F s σ H) (hd : b.dr = some p) (hp : H p = some (.lst vs)) (r : DtAll X.K F us es) (g : L.good es) : Rel X.K L b F s σ (upd H p (.lst us)) := by
  obtain ⟨hf, _⟩ := I.drw p hd
  have nf : ∀ c o, F c = some o → c ≠ p := fun c o h z => by subst z; rw [hf] at h; cases h
  exact {
    sub := fun c o h => by rw [upd_ne (nf c o h)]; exact I.sub c o h
    old := I.old
    new := I.new
    keep := fun c o h d t => by
      have z : c ≠ p := fun z => by subst z; exact d hd
      rw [upd_ne z]; exact I.keep c o h d t
    live := fun c h => I.live c (by
      by_cases z : c = p
      · subst z; rw [upd_same] at h; cases h
      · rw [upd_ne z] at h; exact h)
    drw := fun c h => by
      rw [hd] at h
      cases h
      exact ⟨hf, us, es, upd_same, r, g⟩
    tab := fun P h => by
      obtain ⟨ps, h3, h4⟩ := I.tab P h
      have z : P ≠ p := fun z => by subst z; rw [hp] at h3; cases h3
      exact ⟨ps, by rw [upd_ne z]; exact h3, h4⟩
    ntb := I.ntb
    len := I.len
    slot := fun i c e => by
      have x := I.slot i c e
      cases c with
      | no => trivial
      | fz d => exact x
      | dr => exact x
      | px _ => exact x
      | lk ds =>
        obtain ⟨a, ws, e1, g0, gd, gh, gs⟩ := x
        exact ⟨a, ws, e1, g0, gd, by rw [upd_ne (fun z => gd (by rw [z]; exact hd))]; exact gh, gs⟩
      | ow ds =>
        obtain ⟨a, ws, e1, g0, gd, gf, gh, gs⟩ := x
        exact ⟨a, ws, e1, g0, gd, gf, by rw [upd_ne (fun z => gd (by rw [z]; exact hd))]; exact gh, gs⟩
    apart := I.apart }
theorem dr_slot {b : Beg} {F : Hp} {s : Sl} {σ : L2.St} {H : Hp} {i : Nat} (I : Rel X.K L b F s σ H) (q : s[i]? = some .dr) : ∃ p vs ds, σ[i]? = some (some (.ref p)) ∧ b.dr = some p ∧ H p = some (.lst vs) ∧ DtAll X.K F vs ds ∧ L.good ds := by
  obtain ⟨p, e1, e2⟩ := I.slot i _ q
  have hi : i < σ.length := by rw [I.len]; exact (List.getElem?_eq_some_iff.mp q).1
  have e3 : σ[i]? = some (some (.ref p)) := by
    rw [List.getD_eq_getElem?_getD, List.getElem?_eq_getElem hi] at e1
    rw [List.getElem?_eq_getElem hi]; exact congrArg some e1
  obtain ⟨_, vs, ds, h1, h2, h3⟩ := I.drw p e2
  exact ⟨p, vs, ds, e3, e2, h1, h2, h3⟩
/-- draws that the def unpacks -/
def wUnDr (i : Nat) (wgs : List D → Sl → (Sl → Prop) → Prop) (n : Nat) (good : List D → Prop) : Ws := fun s E => match s[i]? with
  | some .dr => ∀ ds, good ds → ds.length = n ∧ wgs ds s E.nx
  | _ => False
theorem fs_unDr (i : Nat) {x : Str} {n kk : Nat} {tgs : List Expr} {gs : TGs} {wgs : List D → Sl → (Sl → Prop) → Prop} {tp : Pos} (hc : X.calm = true) (hg : FGs X L tgs gs wgs) (hN : X.N[i]? = some x := by rfl) (hv : Vis X.env.scope x := by first | exact Or.inl rfl | exact Or.inr (Or.inl rfl) | exact Or.inr (Or.inr rfl)) (hd : (x == ("__debug__" : Str)) = false := by decide)
    (hcd : (x == ("__classdict__" : Str)) = false := by decide) (hn : (assignEach tgs X.env).length = n := by rfl) (hst : (assignEach tgs X.env).findIdx? (·.1) = none := by rfl)
    (hs : swapsWithSole [.Tuple tgs kk tp] (.Name x p) pos.line X.env = pure false := by rfl) (hw : swappedStores [.Tuple tgs kk tp] (.Name x p) X.env = pure none := by rfl)
    (h1 : (assignEach [.Tuple tgs kk tp] X.env).map (·.2) = [assign (.Tuple tgs kk tp) X.env] := by rfl) :
    FS X L W (.Assign [.Tuple tgs kk tp] (.Name x p) pos) (tAsg (tVar i) (gLst X.K n gs)) (wUnDr i wgs n L.good) := by
  refine ⟨ps_asg (pv i hN hv hd hcd) (pg_lst hc hg.pe hn hst) hs hw h1, fun b F s σ H E D' I h ok => ?_⟩
  unfold wUnDr at h
  split at h
  · rename_i q
    obtain ⟨a, vs, ds, e1, e2, e3, e4, e5⟩ := dr_slot I q
    obtain ⟨h2, h3⟩ := h ds e5
    exact ⟨_, e1, a, vs, rfl, .inl (.inl e3), by rw [dps_len e4]; exact h2, hg.snd b F s σ H vs ds _ _ I e4 h3 fun F2 s2 σ2 H2 I2 m2 z => ok.nx F2 s2 σ2 H2 I2 m2 z⟩
  · exact h.elim
/-- draws[j] = v -/
def wSetDr (i : Nat) (j : Nat) (good : List D → Prop) (wv : We) : Ws := fun s E => match s[i]? with
  | some .dr => wv s (fun d => (∀ ds, good ds → j < ds.length ∧ good (ds.set j d)) ∧ E.nx s) E.ex
  | _ => False
theorem fs_setDr (i j : Nat) {x : Str} {kj : Nat} {pj : Pos} (ha : FE X L W a ta wa) (hN : X.N[i]? = some x := by rfl) (hv : Vis X.env.scope x := by first | exact Or.inl rfl | exact Or.inr (Or.inl rfl) | exact Or.inr (Or.inr rfl)) (hd : (x == ("__debug__" : Str)) = false := by decide)
    (hcd : (x == ("__classdict__" : Str)) = false := by decide)
    (hA : ∀ v, assign (.Subscript (.Name x p) (.Constant (.int (j : Int)) kj pj) p2) X.env v = (do
      let ov ← holding [v] (eval (.Name x p) X.env)
      let iv ← holding [v, ov] (eval (.Constant (.int (j : Int)) kj pj) X.env)
      standAt p2
      holding [v, ov, iv] (setItem ov iv v)
      release [v, ov, iv] []) := by intro _; rfl)
    (hs : swapsWithSole [.Subscript (.Name x p) (.Constant (.int (j : Int)) kj pj) p2] a pos.line X.env = pure false := by rfl) (hw : swappedStores [.Subscript (.Name x p) (.Constant (.int (j : Int)) kj pj) p2] a X.env = pure none := by rfl)
    (h1 : (assignEach [.Subscript (.Name x p) (.Constant (.int (j : Int)) kj pj) p2] X.env).map (·.2) = [assign (.Subscript (.Name x p) (.Constant (.int (j : Int)) kj pj) p2) X.env] := by rfl) :
    FS X L W (.Assign [.Subscript (.Name x p) (.Constant (.int (j : Int)) kj pj) p2] a pos) (tAsg ta (gSub (tVar i) (tC (.int (j : Int))) rSetL)) (wSetDr i j L.good wa) := by
  refine ⟨ps_asg ha.pe (pg_sub (pv i hN hv hd hcd) pe_int set_list hA) hs hw h1, fun b F s σ H E D' I h ok => ?_⟩
  unfold wSetDr at h
  split at h
  · rename_i q
    refine ha.snd b F s σ H _ E.ex _ I h ok.exw fun F1 d v H1 I1 m1 k1 r1 q1 => ?_
    obtain ⟨a, vs, ds, e1, e2, e3, e4, e5⟩ := dr_slot I1 q
    obtain ⟨h2, h3⟩ := q1.1 ds e5
    exact ⟨_, e1, a, vs, _, j, rfl, rfl, e3, ix_lt (by rw [dps_len e4]; exact h2), ok.nx F1 _ _ _ (I1.drset e2 e3 (dps_set r1 j e4) h3) m1 q1.2⟩
  · exact h.elim
end
/-! ### draws of the second kind: [turn, left, cells] -/
def goodB (ds : List D) : Prop := ∃ (t l : Int) (cs : List Int), ds = [.int t, .int l, .list (cs.map .int)] ∧ 0 ≤ t ∧ 0 ≤ l ∧ cs ≠ [] ∧ cs.length ≤ 64 ∧ ∀ c ∈ cs, 0 ≤ c
def lwB (tabs : List Addr) : Lw := ⟨tabs, goodB⟩
def spDraw : Fs := fun cs q _ => match cs with
  | [.dr, .fz (.int n)] => (0 < n ∧ DivOk n) ∧ ∀ v : Int, 0 ≤ v → v < n → q (.int v)
  | _ => False
/-! ### constants of the top -/
def GC (K : PySem.W.Frag) (mg : Str → Option Value) (x : Str) (d : D) : Prop := ∃ (v : V) (u : Value), mg x = some u ∧ RelV v u ∧ Dt K (fun _ => none) v d
theorem fe_glb {X : Cx} {L : Lw} {W : WX} {x : Str} {d : D} {pos : Pos} (h : GC X.K X.mg x d) (hg : Gl X x := by rfl) (hd : (x == ("__debug__" : Str)) = false := by decide) : FE X L W (.Name x pos) (tC (Classical.choose h)) (wC d) :=
  let ⟨_, hm, r, hp⟩ := Classical.choose_spec h
  fe_glob hg hm r hp hd
end FL

/-! FL16: min, max, sorted of alike data. -/
namespace FL
open PySem PySem.Spec PyProof.Rows L2
mutual
theorem reads_uniq {h : Heap} : ∀ {d d' : PyData} {v : Value} {as as' : List Addr}, PySem.W.alike d d = true → Reads h v d as → Reads h v d' as' → d = d'
  | .none, _, _, _, _, _, r, r' => by cases r; cases r'; rfl
  | .bool _, _, _, _, _, _, r, r' => by cases r; cases r'; rfl
  | .int _, _, _, _, _, _, r, r' => by cases r; cases r'; rfl
  | .str _, _, _, _, _, _, r, r' => by cases r; cases r'; rfl
  | .list xs, _, _, _, _, al, r, r' => by
    cases r with
    | list e1 e2 e3 e4 =>
      cases r' with
      | list f1 f2 f3 f4 =>
        rw [e1] at f1; cases f1; rw [e3] at f3; cases f3
        rw [readsAll_uniq (by simpa [PySem.W.alike] using al) e4 f4]
      | tuple f1 f2 f3 f4 => rw [e1] at f1; cases f1; rw [e2] at f2; simp at f2
      | dict f1 f2 f3 f4 f5 => rw [e1] at f1; cases f1; rw [e2] at f2; simp at f2
  | .tuple xs, _, _, _, _, al, r, r' => by
    cases r with
    | tuple e1 e2 e3 e4 =>
      cases r' with
      | tuple f1 f2 f3 f4 =>
        rw [e1] at f1; cases f1; rw [e3] at f3; cases f3
        rw [readsAll_uniq (by simpa [PySem.W.alike] using al) e4 f4]
      | list f1 f2 f3 f4 => rw [e1] at f1; cases f1; rw [e2] at f2; simp at f2
      | dict f1 f2 f3 f4 f5 => rw [e1] at f1; cases f1; rw [e2] at f2; simp at f2
  | .dict _, _, _, _, _, al, _, _ => by simp [PySem.W.alike] at al
theorem readsAll_uniq {h : Heap} : ∀ {ds ds' : List PyData} {vs : List Value} {as as' : List Addr}, PySem.W.alikeAll ds ds = true → ReadsAll h vs ds as → ReadsAll h vs ds' as' → ds = ds'
  | [], _, _, _, _, _, r, r' => by cases r; cases r'; rfl
  | d :: ds, _, _, _, _, al, r, r' => by
    cases r with
    | cons r1 r2 =>
      cases r' with
      | cons q1 q2 =>
        have al2 : PySem.W.alike d d = true ∧ PySem.W.alikeAll ds ds = true := by simpa [PySem.W.alikeAll] using al
        rw [reads_uniq al2.1 r1 q1, readsAll_uniq al2.2 r2 q2]
end
def dep64 (ds : List D) : Prop := PyData.depthAll ds ≤ 64
abbrev rBestA (K : PySem.W.Frag) (f : D → List D → D) : List V → Hp → VK → Prop := fun xs H Q => ∃ a us d ds, xs = [V.ref a] ∧ SqL K H a us ∧ DpAll K H us (d :: ds) ∧ PySem.W.AlikeAll (d :: ds) ∧ dep64 (d :: ds) ∧ ∀ (i : Nat) u, us[i]? = some u → (d :: ds)[i]? = some (f d ds) → Q u H
section
variable {X : Cx}
theorem best_out {pins : List (Addr × Obj)} {σ : L2.St} {H : Hp} {s : Shared} {us : List V} {its : List Value} {d m : D} {ds : List D} {as : List Addr} {Q : VK} (I : L2.Inv X pins σ H s) (rv : Vals us its) (hr : ReadsAll s.heap its (d :: ds) as) (hal : PySem.W.AlikeAll (d :: ds)) (q : ∀ (i : Nat) u, us[i]? = some u → (d :: ds)[i]? = some m → Q u H)
    {i : Nat} {v : Value} {h' : Heap} {tk : Nat} {bs : List Addr} (hv : its.toArray[i]? = some v) (hm : Reads h' v m bs) (hk : ∀ b o, s.heap.get? b = some o → h'.get? b = some o) : EP X pins σ Q v { s with heap := h', toks := tk } := by
  have hv' : its[i]? = some v := by simpa using hv
  have hi : i < us.length := by rw [rv.length]; exact (List.getElem?_eq_some_iff.mp hv').1
  obtain ⟨v', e1, e2⟩ := rv.get (List.getElem?_eq_getElem hi)
  rw [hv'] at e1
  cases e1
  obtain ⟨cs, r, h1, h2, _⟩ := PySem.W.readsAll_at hr i v hv'
  have e3 : (d :: ds)[i]? = some ((d :: ds).getD i .none) := by
    rw [List.getD_eq_getElem?_getD, List.getElem?_eq_getElem h1]; rfl
  have e4 : (d :: ds).getD i .none = m := reads_uniq (hal.1 _ h2 _ h2) (PySem.W.reads_keeps hk r) hm
  rw [e4] at e3
  exact ⟨us[i], H, I.kept (t' := tk) hk, e2, q i _ (List.getElem?_eq_getElem hi) e3⟩
theorem cr_minA (hc : X.calm = true) (hu : X.A.units + 65 < cLine) : CallR X (.builtin "min") (rBestA X.K PySem.W.minD) := by
  intro pins s σ H xs vs Q I r h
  obtain ⟨a, us, d, ds, rfl, hq, hdp, hal, hdep, q⟩ := h
  cases r with
  | cons r rr =>
    cases rr
    cases r
    obtain ⟨its, rv, pl, hz⟩ := I.list hq
    obtain ⟨as, hr⟩ := Dp.readsAll I (d :: ds) us its hdp rv
    exact PySem.W.min_list_data (I.ok.hd hc) pl.isList (by simpa using hr) hal (by unfold dep64 at hdep; omega) fun i v h' tk bs hv hm hk => best_out I rv hr hal q hv hm hk
theorem cr_maxA (hc : X.calm = true) (hu : X.A.units + 65 < cLine) : CallR X (.builtin "max") (rBestA X.K PySem.W.maxD) := by
  intro pins s σ H xs vs Q I r h
  obtain ⟨a, us, d, ds, rfl, hq, hdp, hal, hdep, q⟩ := h
  cases r with
  | cons r rr =>
    cases rr
    cases r
    obtain ⟨its, rv, pl, hz⟩ := I.list hq
    obtain ⟨as, hr⟩ := Dp.readsAll I (d :: ds) us its hdp rv
    exact PySem.W.max_list_data (I.ok.hd hc) pl.isList (by simpa using hr) hal (by unfold dep64 at hdep; omega) fun i v h' tk bs hv hm hk => best_out I rv hr hal q hv hm hk
/-- the best item of a list of alike data -/
def dBest (f : D → List D → D) : D → (D → Prop) → Prop := fun e Q => match e with
  | .list (d :: ds) => (PySem.W.AlikeAll (d :: ds) ∧ dep64 (d :: ds)) ∧ Q (f d ds)
  | _ => False
variable {L : Lw} {W : WX}
theorem snd_best {f : D → List D → D} (hf : ∀ d ds, f d ds ∈ d :: ds) (b : Beg) (F : Hp) (s : Sl) (σ : L2.St) (H : Hp) (v : V) (e : D) (Q : D → Prop) (k : VK) (I : Rel X.K L b F s σ H) (hv : DpB X.K b F H v e) (q : dBest f e Q) (kk : ∀ F' c v H', Rel X.K L b F' s σ H' → Same F F' → Kp b H H' → Dt X.K F' v c → Q c → k v H') :
    rBestA X.K f [v] H k := by
  unfold dBest at q
  split at q
  · rename_i d ds
    have main : ∀ {a : Addr} {us : List V}, SqL X.K H a us → DtAll X.K F us (d :: ds) → rBestA X.K f [.ref a] H k := fun {a us} hs r =>
      ⟨a, us, d, ds, rfl, hs, dts_dp (dps_mono I.sub r), q.1.1, q.1.2, fun i u e1 e2 => by
        obtain ⟨v', e3, e4⟩ := dps_get r e2
        rw [e1] at e3; cases e3
        exact kk F _ _ H I (Same.refl F) Kp.refl e4 q.2⟩
    rcases hv with hv | ⟨a, vs, ds', rfl, e2, e3, e4, e5⟩
    · cases hv with
      | lst q1 q2 => exact main (I.sub.seq q1) q2
    · cases e2
      exact main (.inl (.inl e4)) e5
  · exact q.elim
theorem minD_mem (d : D) (ds : List D) : PySem.W.minD d ds ∈ d :: ds := by
  unfold PySem.W.minD
  induction ds generalizing d with
  | nil => exact List.mem_cons_self
  | cons x xs ih =>
    rw [List.foldl_cons]
    split
    · exact List.mem_cons_of_mem _ (ih x)
    · rcases List.mem_cons.mp (ih d) with h | h
      · rw [h]; exact List.mem_cons_self
      · exact List.mem_cons_of_mem _ (List.mem_cons_of_mem _ h)
theorem maxD_mem (d : D) (ds : List D) : PySem.W.maxD d ds ∈ d :: ds := by
  unfold PySem.W.maxD
  induction ds generalizing d with
  | nil => exact List.mem_cons_self
  | cons x xs ih =>
    rw [List.foldl_cons]
    split
    · exact List.mem_cons_of_mem _ (ih x)
    · rcases List.mem_cons.mp (ih d) with h | h
      · rw [h]; exact List.mem_cons_self
      · exact List.mem_cons_of_mem _ (List.mem_cons_of_mem _ h)
theorem cal_minA {k : Nat} (hr : Room k X.A) (hc : X.calm = true := by rfl) : CalB X L (.builtin "min") (rBestA X.K PySem.W.minD) (dBest PySem.W.minD) := ⟨cr_minA hc (by have := hr.un; omega), snd_best minD_mem⟩
theorem cal_maxA {k : Nat} (hr : Room k X.A) (hc : X.calm = true := by rfl) : CalB X L (.builtin "max") (rBestA X.K PySem.W.maxD) (dBest PySem.W.maxD) := ⟨cr_maxA hc (by have := hr.un; omega), snd_best maxD_mem⟩
end
theorem tabIn_of {K : PySem.W.Frag} {x : Str} {f c P : Addr} {oc o1 : Value} {od o2 : Option Addr} {sl o3 : Array (Option Value)} {fd : FuncData} {vs : Array Value} (a : PySem.W.nsIn K mainGlobals x = some (some (.ref f))) (l : K.lookup f = some ⟨oc, od, .func fd, sl⟩) (hc : fd.code = .ref c)
    (lc : K.lookup c = some ⟨o1, o2, .fields vs, o3⟩) (hv : vs[11]? = some (.ref P)) : PySem.W.tabIn K x = some (c, P) := by
  unfold PySem.W.tabIn
  rw [a]
  dsimp only
  rw [l]
  dsimp only
  rw [hc]
  dsimp only
  rw [lc]
  dsimp only
  rw [hv]
end FL

/-! FL17: several stores at once, the last (or the first, ahead of constants) a new list of the def's own. -/
namespace FL
open PySem PySem.Spec PyProof.Rows L2
section
variable {K : PySem.W.Frag} {L : Lw} {b : Beg} {F F' : Hp} {s : Sl} {σ : L2.St} {H H' : Hp}
theorem hn_put {i : Nat} {p : Addr} {d : D} {v : V} (h : ∀ (j : Nat), isOw s[j]? → σ[j]? ≠ some (some (.ref p))) : ∀ (j : Nat), isOw (s.set i (.fz d))[j]? → (σ.set i (some v))[j]? ≠ some (some (.ref p)) := by
  intro j z
  by_cases q : j = i
  · subst q
    rw [List.getElem?_set] at z
    split at z
    · split at z <;> exact z.elim
    · rename_i y; exact absurd rfl y
  · rw [List.getElem?_set_ne (Ne.symm q)] at z ⊢
    exact h j z
end
section
variable {X : Cx} {L : Lw} {W : WX} {pos p : Pos} {a c e : Expr} {ta tb te : TE} {wa wb we : We} {wl : Wl}
def wParO (i j : Nat) (wa : We) (wl : Wl) : Ws := fun s E => wa s (fun d => wl s (fun ds => E.nx ((s.set i (.fz d)).set j (.ow ds))) E.ex) E.ex
theorem fs_parO {i j : Nat} {x y : Str} {px py pt pt2 : Pos} {kt k2 : Nat} (hc : X.calm = true) (hN : X.N.Nodup) (ha : FE X L W a ta wa) (hb : FN X L W c tb wl) (hi : X.N[i]? = some x := by rfl) (hj : X.N[j]? = some y := by rfl) (hij : i ≠ j := by decide)
    (hx : X.env.scope.names.lookup x = some .local := by rfl) (hy : X.env.scope.names.lookup y = some .local := by rfl)
    (hw : swappedStores [.Tuple [.Name x px, .Name y py] kt pt] (.Tuple [a, c] k2 pt2) X.env = pure (some [x, y]) := by rfl)
    (hs : swapsWithSole [.Tuple [.Name x px, .Name y py] kt pt] (.Tuple [a, c] k2 pt2) pos.line X.env = pure false := by rfl)
    (h1 : starEach [a, c] X.env = (false, eval a X.env) :: starEach [c] X.env := by rfl) (h2 : starEach [c] X.env = (false, eval c X.env) :: starEach [] X.env := by rfl) :
    FS X L W (.Assign [.Tuple [.Name x px, .Name y py] kt pt] (.Tuple [a, c] k2 pt2) pos) (tPar i j (tCons ta (tCons tb tNil))) (wParO i j wa wl) := by
  refine ⟨ps_par hc hN hi hj hij hx hy (pa_cons ha.pe (pa_cons hb.pe pa_nil h2) h1) hw hs, fun b F s σ H E D' I h ok => ?_⟩
  refine ha.snd b F s σ H _ E.ex _ I h ok.exw fun F1 d v H1 I1 m1 k1 r1 q => ?_
  refine hb.snd b F1 s σ H1 _ E.ex _ I1 q (ok.exw.mono m1) fun F2 ds p vs H2 I2 m2 k2 fr e2 r2 z => ?_
  exact ⟨_, _, rfl, ok.nx F2 _ _ H2 ((I2.put (dp_mono m2 r1)).putO fr.h0 fr.hd fr.hf (hn_put fr.hn) e2 r2) (m1.trans m2) z⟩
def wPar3O (i j l : Nat) (wa wb : We) (wl : Wl) : Ws := fun s E => wa s (fun d => wb s (fun e => wl s (fun ds => E.nx (((s.set i (.fz d)).set j (.fz e)).set l (.ow ds))) E.ex) E.ex) E.ex
theorem fs_par3O {i j l : Nat} {x y z : Str} {px py pz pt pt2 : Pos} {kt k2 : Nat} (hc : X.calm = true) (hN : X.N.Nodup) (ha : FE X L W a ta wa) (hb : FE X L W c tb wb) (he : FN X L W e te wl) (hi : X.N[i]? = some x := by rfl) (hj : X.N[j]? = some y := by rfl) (hl : X.N[l]? = some z := by rfl) (hij : i ≠ j := by decide) (hil : i ≠ l := by decide) (hjl : j ≠ l := by decide)
    (hx : X.env.scope.names.lookup x = some .local := by rfl) (hy : X.env.scope.names.lookup y = some .local := by rfl) (hz : X.env.scope.names.lookup z = some .local := by rfl)
    (hw : swappedStores [.Tuple [.Name x px, .Name y py, .Name z pz] kt pt] (.Tuple [a, c, e] k2 pt2) X.env = pure (some [x, y, z]) := by rfl)
    (hs : swapsWithSole [.Tuple [.Name x px, .Name y py, .Name z pz] kt pt] (.Tuple [a, c, e] k2 pt2) pos.line X.env = pure false := by rfl)
    (h1 : starEach [a, c, e] X.env = (false, eval a X.env) :: starEach [c, e] X.env := by rfl) (h2 : starEach [c, e] X.env = (false, eval c X.env) :: starEach [e] X.env := by rfl) (h3 : starEach [e] X.env = (false, eval e X.env) :: starEach [] X.env := by rfl) :
    FS X L W (.Assign [.Tuple [.Name x px, .Name y py, .Name z pz] kt pt] (.Tuple [a, c, e] k2 pt2) pos) (tPar3 i j l (tCons ta (tCons tb (tCons te tNil)))) (wPar3O i j l wa wb wl) := by
  refine ⟨ps_par3 hc hN hi hj hl hij hil hjl hx hy hz (pa_cons ha.pe (pa_cons hb.pe (pa_cons he.pe pa_nil h3) h2) h1) hw hs, fun b F s σ H E D' I h ok => ?_⟩
  refine ha.snd b F s σ H _ E.ex _ I h ok.exw fun F1 d v H1 I1 m1 k1 r1 q => ?_
  refine hb.snd b F1 s σ H1 _ E.ex _ I1 q (ok.exw.mono m1) fun F2 d2 v2 H2 I2 m2 k2 r2 q => ?_
  refine he.snd b F2 s σ H2 _ E.ex _ I2 q (ok.exw.mono (m1.trans m2)) fun F3 ds p vs H3 I3 m3 k3 fr e2 r3 z => ?_
  exact ⟨_, _, _, rfl, ok.nx F3 _ _ H3 (((I3.put (dp_mono (m2.trans m3) r1)).put (dp_mono m3 r2)).putO fr.h0 fr.hd fr.hf (hn_put (hn_put fr.hn)) e2 r3) ((m1.trans m2).trans m3) z⟩
/-- a new list ahead of a constant -/
def wParOc (i j : Nat) (d : D) (wl : Wl) : Ws := fun s E => wl s (fun ds => E.nx ((s.set i (.ow ds)).set j (.fz d))) E.ex
theorem fs_parOc {i j : Nat} {x y : Str} {px py pt pt2 : Pos} {kt k2 : Nat} {v : V} {d : D} (hc : X.calm = true) (hN : X.N.Nodup) (hb : FN X L W a ta wl) (hv : PE X c (tC v)) (hd : ∀ F, Dt X.K F v d) (hi : X.N[i]? = some x := by rfl) (hj : X.N[j]? = some y := by rfl) (hij : i ≠ j := by decide)
    (hx : X.env.scope.names.lookup x = some .local := by rfl) (hy : X.env.scope.names.lookup y = some .local := by rfl)
    (hw : swappedStores [.Tuple [.Name x px, .Name y py] kt pt] (.Tuple [a, c] k2 pt2) X.env = pure (some [x, y]) := by rfl)
    (hs : swapsWithSole [.Tuple [.Name x px, .Name y py] kt pt] (.Tuple [a, c] k2 pt2) pos.line X.env = pure false := by rfl)
    (h1 : starEach [a, c] X.env = (false, eval a X.env) :: starEach [c] X.env := by rfl) (h2 : starEach [c] X.env = (false, eval c X.env) :: starEach [] X.env := by rfl) :
    FS X L W (.Assign [.Tuple [.Name x px, .Name y py] kt pt] (.Tuple [a, c] k2 pt2) pos) (tPar i j (tCons ta (tCons (tC v) tNil))) (wParOc i j d wl) := by
  refine ⟨ps_par hc hN hi hj hij hx hy (pa_cons hb.pe (pa_cons hv pa_nil h2) h1) hw hs, fun b F s σ H E D' I h ok => ?_⟩
  refine hb.snd b F s σ H _ E.ex _ I h ok.exw fun F2 ds p vs H2 I2 m2 k2 fr e2 r2 z => ?_
  exact ⟨_, _, rfl, ok.nx F2 _ _ H2 ((I2.putO fr.h0 fr.hd fr.hf fr.hn e2 r2).put (hd F2)) m2 z⟩
end
end FL

/-! FL18: plain lemmas: what == of data needs and says. -/
namespace FL
open PySem PySem.Spec PyProof.Rows L2
section
variable {c : Cel} {s : Sl} {E : En}
theorem u_parO {i j : Nat} {wa : We} {wl : Wl} : wParO i j wa wl (c :: s) E = wa (c :: s) (fun d => wl (c :: s) (fun ds => E.nx (((c :: s).set i (.fz d)).set j (.ow ds))) E.ex) E.ex := rfl
theorem u_par3O {i j l : Nat} {wa wb : We} {wl : Wl} : wPar3O i j l wa wb wl (c :: s) E = wa (c :: s) (fun d => wb (c :: s) (fun e => wl (c :: s) (fun ds => E.nx ((((c :: s).set i (.fz d)).set j (.fz e)).set l (.ow ds))) E.ex) E.ex) E.ex := rfl
theorem u_parOc {i j : Nat} {d : D} {wl : Wl} : wParOc i j d wl (c :: s) E = wl (c :: s) (fun ds => E.nx (((c :: s).set i (.ow ds)).set j (.fz d))) E.ex := rfl
end
/-- the first statement by itself -/
theorem seq_mid {a r : Ws} {s : Sl} {E : En} (s2 : Sl) (h : ∀ N : Sl → Prop, N s2 → a s { E with nx := N }) (k : r s2 E) : wSeq a r s E := h (fun s' => r s' E) k
theorem seq_midP {a r : Ws} {s : Sl} {E : En} (P : Sl → Prop) (h : ∀ N : Sl → Prop, (∀ s2, P s2 → N s2) → a s { E with nx := N }) (k : ∀ s2, P s2 → r s2 E) : wSeq a r s E := h (fun s' => r s' E) k
theorem ws_mid {a : Ws} {s : Sl} {E : En} (s2 : Sl) (h : ∀ N : Sl → Prop, N s2 → a s { E with nx := N }) (k : E.nx s2) : a s E := h E.nx k
/-- data that can be compared, of depth at most n -/
def Sh (n : Nat) (d : D) : Prop := d.canLay0 = true ∧ d.depth ≤ n
theorem sh_i {n : Nat} {i : Int} : Sh n (.int i) := ⟨rfl, Nat.zero_le _⟩
theorem sh_b {n : Nat} {i : Bool} : Sh n (.bool i) := ⟨rfl, Nat.zero_le _⟩
theorem sh_n {n : Nat} : Sh n .none := ⟨rfl, Nat.zero_le _⟩
theorem sh_s {n : Nat} {x : Str} (h : PyData.canLay0 (.str x) = true) : Sh n (.str x) := ⟨h, Nat.zero_le _⟩
theorem sh_all {n : Nat} : ∀ {ds : List D}, (∀ d ∈ ds, Sh n d) → PyData.canLayAll0 ds = true ∧ PyData.depthAll ds ≤ n
  | [], _ => ⟨rfl, Nat.zero_le _⟩
  | d :: ds, h => by
    have h1 := h d List.mem_cons_self
    have h2 := sh_all fun e he => h e (List.mem_cons_of_mem _ he)
    unfold PyData.canLayAll0 PyData.depthAll
    rw [h1.1, h2.1]
    exact ⟨rfl, Nat.max_le.mpr ⟨h1.2, h2.2⟩⟩
theorem sh_l {n : Nat} {ds : List D} (h : ∀ d ∈ ds, Sh n d) : Sh (n + 1) (.list ds) := by
  have := sh_all h
  refine ⟨by unfold PyData.canLay0; exact this.1, ?_⟩
  have h2 := this.2
  unfold PyData.depth
  omega
theorem sh_t {n : Nat} {ds : List D} (h : ∀ d ∈ ds, Sh n d) : Sh (n + 1) (.tuple ds) := by
  have := sh_all h
  refine ⟨by unfold PyData.canLay0; exact this.1, ?_⟩
  have h2 := this.2
  unfold PyData.depth
  omega
theorem sh_ok {n : Nat} {d : D} (h : Sh n d) (hn : n ≤ 64 := by decide) : SeqAt.shaped d = true := by
  unfold SeqAt.shaped
  rw [h.1, decide_eq_true (Nat.le_trans h.2 hn)]
  rfl
theorem sh_eq {n m : Nat} {d e : D} (h : Sh n d) (h' : Sh m e) (hn : n ≤ 64 := by decide) (hm : m ≤ 64 := by decide) : EqOk d e := .inr ⟨sh_ok h hn, sh_ok h' hm⟩
theorem sh_nilL : Sh 1 (.list []) := sh_l fun _ h => by cases h
theorem sh_nilT : Sh 1 (.tuple []) := sh_t fun _ h => by cases h
theorem ev_lnil {ds : List D} : PyData.eqv (.list ds) (.list []) = decide (ds = []) := by
  cases ds <;> simp [PyData.eqv, PyData.eqvAll]
theorem ev_tnil {ds : List D} : PyData.eqv (.tuple ds) (.tuple []) = decide (ds = []) := by
  cases ds <;> simp [PyData.eqv, PyData.eqvAll]
theorem evs_map {α : Type} [DecidableEq α] {f : α → D} (h : ∀ x y, PyData.eqv (f x) (f y) = decide (x = y)) : ∀ xs ys : List α, PyData.eqvAll (xs.map f) (ys.map f) = decide (xs = ys)
  | [], [] => by simp [PyData.eqvAll]
  | [], _ :: _ => by simp [PyData.eqvAll]
  | _ :: _, [] => by simp [PyData.eqvAll]
  | x :: xs, y :: ys => by
    rw [List.map_cons, List.map_cons, PyData.eqvAll, h x y, evs_map h xs ys, ← Bool.decide_and]
    exact decide_eq_decide.mpr (by rw [List.cons.injEq])
theorem ev_lmap {α : Type} [DecidableEq α] {f : α → D} (h : ∀ x y, PyData.eqv (f x) (f y) = decide (x = y)) (xs ys : List α) : PyData.eqv (.list (xs.map f)) (.list (ys.map f)) = decide (xs = ys) := by
  rw [PyData.eqv]; exact evs_map h xs ys
theorem ev_tmap {α : Type} [DecidableEq α] {f : α → D} (h : ∀ x y, PyData.eqv (f x) (f y) = decide (x = y)) (xs ys : List α) : PyData.eqv (.tuple (xs.map f)) (.tuple (ys.map f)) = decide (xs = ys) := by
  rw [PyData.eqv]; exact evs_map h xs ys
theorem cut_take {α : Type} (xs : List α) (k : Nat) : cutL xs none (some (k : Int)) = xs.take k := by
  unfold cutL
  rw [HT.sIx_none, HT.sIx_nat, Nat.sub_zero, List.drop_zero]
  rw [List.take_eq_take_iff]
  omega
theorem cut_drop {α : Type} (xs : List α) (k : Nat) : cutL xs (some (k : Int)) none = xs.drop k := by
  unfold cutL
  rw [HT.sIx_none, HT.sIx_nat]
  rw [List.take_of_length_le (by rw [List.length_drop]; omega)]
  rcases Nat.le_total k xs.length with h | h
  · rw [Nat.min_eq_left h]
  · rw [Nat.min_eq_right h, List.drop_of_length_le (Nat.le_refl _), List.drop_of_length_le h]
end FL

/-! FL19: what is never reached. -/
namespace FL
open PySem PySem.Spec PyProof.Rows L2
section
variable {X : Cx} {L : Lw} {W : WX} {st : Stmt} {e : Expr}
def wDead : Ws := fun _ _ => False
/-- a statement that is never reached -/
theorem fs_dead : FS X L W st (fun _ _ _ => False) wDead := ⟨⟨fun _ _ _ _ _ _ h => h.elim⟩, fun _ _ _ _ _ _ _ _ h _ => h.elim⟩
def wDeadE : We := fun _ _ _ => False
theorem fe_dead : FE X L W e (fun _ _ _ => False) wDeadE := ⟨⟨fun _ _ _ _ _ _ h => h.elim⟩, fun _ _ _ _ _ _ _ _ _ h _ _ => h.elim⟩
end
end FL

/-! FL20: index of a tuple of words. -/
namespace FL
open PySem PySem.Spec PyProof.Rows L2
section
variable {X : Cx} {L : Lw} {W : WX} {pos : Pos} {o e : Expr} {to te : TE} {wo we : We}
def rIdxT (K : PySem.W.Frag) : V → List V → Hp → VK → Prop := fun x xs H Q => ∃ (a : Addr) (k : Str) (ss : List Str), x = V.ref a ∧ xs = [V.str k] ∧ SqT K H a (ss.map V.str) ∧ k ∈ ss ∧ Q (.int ((ss.idxOf k : Nat) : Int)) H
theorem mt_idxT : MtR X "tuple.index" (rIdxT X.K) := by
  intro pins s σ H x xs v us Q I rx rxs h
  obtain ⟨a, k, ss, rfl, rfl, hs, hk, q⟩ := h
  cases rx
  cases rxs with
  | cons ry rt =>
    cases rt
    obtain ⟨its, rv, hl, hlen⟩ := I.tuple hs
    obtain ⟨t, rfl⟩ := ry
    exact SeqAt.tuple_index_strs hl (Vals.strs rv) hk ⟨.int _, H, I.tok _, ⟨_, rfl⟩, q⟩
theorem dps_strs {K : PySem.W.Frag} {H : Hp} : ∀ {ns : List Str} {vs : List V}, DtAll K H vs (ns.map .str) → vs = ns.map V.str
  | [], _, h => by cases h; rfl
  | _ :: _, _, h => by
    cases h with
    | cons h1 h2 => cases h1; simp [dps_strs h2]
/-- a constant of the top: a tuple of words -/
def GCI (K : PySem.W.Frag) (mg : Str → Option Value) (x : Str) (ss : List Str) : Prop := ∃ (a : Addr) (o : Obj) (its : Array Value) (n : Nat), mg x = some (.ref a) ∧ K.lookup a = some o ∧ o.cls = .type "tuple" ∧ o.dict = none ∧ o.data = .seq its n ∧ its.size ≤ sizeLine ∧ Vals (ss.map V.str) its.toList
def wIdxC (ss : List Str) (we : We) : We := fun s Q R => we s (fun k => match k with
  | .str k => k ∈ ss ∧ Q (.int ((ss.idxOf k : Nat) : Int))
  | _ => False) R
theorem fe_idxC {x : Str} {ss : List Str} {p p2 p3 : Pos} (h : GCI X.K X.mg x ss) (ha : FE X L W e te we) (hg : Gl X x := by rfl) (hd : (x == ("__debug__" : Str)) = false := by decide) (hbase : attributeBase (.Name x p) "index" X.env (eval (.Name x p) X.env) = eval (.Name x p) X.env := by rfl)
    (hfew : ((backTo p3 (starEach [e] X.env)).all (fun x => !x.1) && (backToKw p3 (keywordEach [] X.env)).all (fun x => x.1.isSome) && decide ([e].length + ([] : List Keyword).length + (if ([] : List Keyword).isEmpty then 0 else 1) < 30)) = true := by rfl)
    (hline : (p2.endLine == p3.line) = true := by rfl) (hst : starEach [e] X.env = (false, eval e X.env) :: starEach [] X.env := by rfl) :
    FE X L W (.Call (.Attribute (.Name x p) "index" p2) [e] [] p3) (tBM X.K "tuple" (rIdxT X.K) (tC (.ref (Classical.choose h))) (tCons te tNil)) (wIdxC ss we) := by
  obtain ⟨o, its, n, hm, hl, hc, hdi, hda, hz, hv⟩ := Classical.choose_spec h
  generalize Classical.choose h = a at *
  refine ⟨pe_bm PySem.F.plainAttrs_tuple PySem.F.slot_tuple_index PySem.F.type_tuple_index mt_idxT (pe_glob hg hm rfl hd) (pa_cons ha.pe pa_nil hst) hbase hfew hline hst rfl, fun b F s σ H Q R k I h hx kk => ?_⟩
  refine ⟨.inr (.inl ⟨rfl, o, hl, hc, hdi⟩), ?_⟩
  refine ha.snd b F s σ H _ R _ I h hx fun F1 d1 v1 H1 I1 m1 k1 r1 h1 => ?_
  cases d1 with
  | str w =>
    cases r1
    exact ⟨a, w, ss, rfl, rfl, .inr ⟨o, its, n, hl, hc, hda, hz, hv⟩, h1.1, kk F1 _ _ H1 I1 m1 k1 (.int _) h1.2⟩
  | _ => exact h1.elim
end
end FL

/-! FL21: while an exception is handled: the end of a list and of a tuple, unpacking. -/
namespace FLH
open PySem PySem.Spec PyProof.Rows HotX
section
variable {prog : Program} {w : World} {A : Around} {E : Value → Shared → Prop} {s : Shared}
theorem next_list_end_hot {it l x1 : Addr} {i : Nat} {items} {Q : Option Value → Shared → Prop} (hot : HotAt A x1 s.heap) (hit : s.heap.IsListIter it l i) (hl : s.heap.IsList l items) (hx : items[i]? = none)
    (hQ : ∀ h', Heap.ExtBut it s.heap h' → Q none { s with heap := h' }) : wpAny (model prog w) A (pyNext (.ref it)) Q E s := by
  obtain ⟨hh, o1, vs1, h1, d1, c1⟩ := hot
  obtain ⟨o, ho, hc, hd⟩ := id hit
  obtain ⟨ol, hol, _, nl, hdl⟩ := hl
  have hne : x1 ≠ it := fun z => by
    rw [z, ho] at h1
    cases h1
    rw [hd] at d1
    cases d1
    cases c1
  unfold pyNext
  refine wpAny_bind (wpAny_attempt (wpAny_callSpecial?_slot (name := Str.ofString "__next__") hit.typeIs slot_listiter_next
    (wpAny_call_entry slot_listiter_next hit.typeIs entry_listiter_next ?_ (args_listiter_next _))))
  show wpAny _ _ (field (.ref it) 0 >>= _) _ _ s
  refine wpAny_bind (wpAny_field ho hd (x := .ref l) rfl ?_)
  show wpAny _ _ (if (Value.ref l == Value.none) = true then _ else _) _ _ s
  rw [if_neg (show ¬ ((Value.ref l == Value.none) = true) from Bool.false_ne_true)]
  show wpAny _ _ (field (.ref it) 1 >>= _) _ _ s
  refine wpAny_bind (wpAny_field ho hd (x := .int i 0) rfl ?_)
  show wpAny _ _ (seqItems? (.ref l) >>= _) _ _ s
  refine wpAny_bind (wpAny_seqItems hol hdl ?_)
  simp only [Int.toNat_natCast, hx]
  refine wpAny_bind (wpAny_rule (wpAny_bind (wpAny_setField ho hd (by simp) ?_)))
  show wpAny _ _ (newExc (.type "StopIteration") [] >>= _) _ _ _
  refine wpAny_bind ?_
  simp only [newExc, newTuple]
  refine wpAny_bind (wpAny_newObj_type ?_ (by size_fits))
  refine wpAny_bind (m := firstArgMember _ _) (wpAny_of_eq (a := Value.none) (by first | rfl | (simp only [firstArgMember]; rfl)) ?_)
  refine wpAny_newObj_type ?_ (by size_fits)
  have h1' := (Heap.get?_update_other (h := s.heap) (a := it) (Obj.mapFields (·.setIfInBounds 0 Value.none)) (Ne.symm hne)).trans h1
  refine raiseNew_hot ⟨hh, o1, vs1, Heap.get?_push_of_some _ (Heap.get?_push_of_some _ h1'), d1, c1⟩ (Nat.ne_of_lt (Heap.lt_size (Heap.get?_push_of_some _ h1'))) (Heap.get?_push_size _ rfl) rfl (by first | (simp; done) | (simp; omega) | (simp only [Array.size_append]; simp; omega)) ?_
  refine wpAny_bind (wpAny_isInstance (T := "StopIteration") (b := true) ⟨_, Heap.get?_update_self _ (Heap.get?_push_size _ rfl) rfl, rfl⟩ isSubtype_stop ?_)
  refine wpAny_pure (hQ _ fun b o hb e => ?_)
  have e' := (Heap.get?_update_other (h := s.heap) (a := it) (Obj.mapFields (·.setIfInBounds 0 Value.none)) (Ne.symm hb)).trans e
  rw [Heap.get?_update_other _ _ (Nat.ne_of_gt (Heap.lt_size (Heap.get?_push_of_some _ e')))]
  exact Heap.get?_push_of_some _ (Heap.get?_push_of_some _ e')
theorem next_tuple_end_hot {it l x1 : Addr} {i : Nat} {items} {Q : Option Value → Shared → Prop} (hot : HotAt A x1 s.heap) (hit : IsTupIter s.heap it l i) (hl : IsTup s.heap l items) (hx : items[i]? = none)
    (hQ : ∀ h', Heap.ExtBut it s.heap h' → Q none { s with heap := h' }) : wpAny (model prog w) A (pyNext (.ref it)) Q E s := by
  obtain ⟨hh, o1, vs1, h1, d1, c1⟩ := hot
  obtain ⟨o, ho, hc, hd⟩ := id hit
  obtain ⟨ol, hol, _, nl, hdl⟩ := hl
  have hne : x1 ≠ it := fun z => by
    rw [z, ho] at h1
    cases h1
    rw [hd] at d1
    cases d1
    cases c1
  unfold pyNext
  refine wpAny_bind (wpAny_attempt (wpAny_callSpecial?_slot (name := Str.ofString "__next__") hit.typeIs slot_tupleiter_next
    (wpAny_call_entry slot_tupleiter_next hit.typeIs entry_tupleiter_next ?_ (args_tupleiter_next _))))
  show wpAny _ _ (field (.ref it) 0 >>= _) _ _ s
  refine wpAny_bind (wpAny_field ho hd (x := .ref l) rfl ?_)
  show wpAny _ _ (if (Value.ref l == Value.none) = true then _ else _) _ _ s
  rw [if_neg (show ¬ ((Value.ref l == Value.none) = true) from Bool.false_ne_true)]
  show wpAny _ _ (field (.ref it) 1 >>= _) _ _ s
  refine wpAny_bind (wpAny_field ho hd (x := .int i 0) rfl ?_)
  show wpAny _ _ (seqItems? (.ref l) >>= _) _ _ s
  refine wpAny_bind (wpAny_seqItems hol hdl ?_)
  simp only [Int.toNat_natCast, hx]
  refine wpAny_bind (wpAny_rule (wpAny_bind (wpAny_setField ho hd (by simp) ?_)))
  show wpAny _ _ (newExc (.type "StopIteration") [] >>= _) _ _ _
  refine wpAny_bind ?_
  simp only [newExc, newTuple]
  refine wpAny_bind (wpAny_newObj_type ?_ (by size_fits))
  refine wpAny_bind (m := firstArgMember _ _) (wpAny_of_eq (a := Value.none) (by first | rfl | (simp only [firstArgMember]; rfl)) ?_)
  refine wpAny_newObj_type ?_ (by size_fits)
  have h1' := (Heap.get?_update_other (h := s.heap) (a := it) (Obj.mapFields (·.setIfInBounds 0 Value.none)) (Ne.symm hne)).trans h1
  refine raiseNew_hot ⟨hh, o1, vs1, Heap.get?_push_of_some _ (Heap.get?_push_of_some _ h1'), d1, c1⟩ (Nat.ne_of_lt (Heap.lt_size (Heap.get?_push_of_some _ h1'))) (Heap.get?_push_size _ rfl) rfl (by first | (simp; done) | (simp; omega) | (simp only [Array.size_append]; simp; omega)) ?_
  refine wpAny_bind (wpAny_isInstance (T := "StopIteration") (b := true) ⟨_, Heap.get?_update_self _ (Heap.get?_push_size _ rfl) rfl, rfl⟩ isSubtype_stop ?_)
  refine wpAny_pure (hQ _ fun b o hb e => ?_)
  have e' := (Heap.get?_update_other (h := s.heap) (a := it) (Obj.mapFields (·.setIfInBounds 0 Value.none)) (Ne.symm hb)).trans e
  rw [Heap.get?_update_other _ _ (Nat.ne_of_gt (Heap.lt_size (Heap.get?_push_of_some _ e')))]
  exact Heap.get?_push_of_some _ (Heap.get?_push_of_some _ e')
theorem unpackItems_hot {t x1 : Addr} {items : Array Value} {Q : List Value → Shared → Prop} (hot : HotAt A x1 s.heap) (ht : IsTup s.heap t items)
    (hQ : ∀ h', Heap.ExtBut s.heap.objs.size s.heap h' → Q items.toList { s with heap := h' }) : wpAny (model prog w) A (unpackItems (.ref t) items.size none) Q E s := by
  have hlt : t ≠ s.heap.objs.size := by obtain ⟨o, ho, _⟩ := ht; exact Nat.ne_of_lt (Heap.lt_size ho)
  obtain ⟨hh, o1, vs1, h1, d1, c1⟩ := hot
  unfold unpackItems notIterableAtAll
  refine wpAny_bind (wpAny_bind (wpAny_specialOf ht.typeIs slot_tuple_iter.lookup (wpAny_pure ?_)))
  simp only [Bool.false_eq_true, if_false]
  refine wpAny_bind (wpAny_holding (iter_tuple ht ?_))
  refine wpAny_bind (wpAny_holding (draw_tuple hlt items.size 0 _ _ ⟨_, Heap.get?_push_size _ rfl, rfl, rfl⟩ (ht.push _) (by omega) fun h₁ hit₁ hs₁ => ?_))
  rw [List.drop_zero, List.take_of_length_le (by simp), if_neg (by simp)]
  have n1 : x1 ≠ s.heap.objs.size := Nat.ne_of_lt (Heap.lt_size h1)
  refine wpAny_bind (wpAny_holding (next_tuple_end_hot ⟨hh, o1, vs1, hs₁.extBut x1 o1 n1 (Heap.get?_push_of_some _ h1), d1, c1⟩ hit₁ ((ht.push _).extBut hs₁.extBut hlt) (by simp) fun h₂ he₂ => ?_))
  simp only [Option.isSome_none, Bool.false_eq_true, if_false]
  exact wpAny_pure (hQ h₂ fun b o hb e => he₂ b o hb (hs₁.extBut b o hb (Heap.get?_push_of_some _ e)))
theorem assign_Tuple_hot {env : Env} {elts : List Expr} {k} {pos : Pos} {t x1 : Addr} {items : Array Value} {Q : Unit → Shared → Prop} (hot : HotAt A x1 s.heap) (ht : IsTup s.heap t items)
    (hn : (assignEach elts env).length = items.size) (hstar : (assignEach elts env).findIdx? (·.1) = none)
    (h : ∀ h', Heap.ExtBut s.heap.objs.size s.heap h' → wpAny (model prog w) A (assignInOrder ((assignEach elts env).map (·.2)) items.toList) Q E { s with heap := h' }) :
    wpAny (model prog w) A (assign (.Tuple elts k pos) env (.ref t)) Q E s := by
  rw [assign_Tuple]
  refine wpAny_bind (wpAny_standAt ?_)
  unfold unpack
  rw [hn, hstar]
  exact wpAny_bind (wpAny_holding (unpackItems_hot hot ht h))
end
end FLH

/-! FL22: while an exception is handled: a list comprehension over a list, a tuple as a target. -/
namespace FLH
open PySem PySem.Spec PyProof.Rows HotX
open L2H (Hot1 HotC PinOk RoomH)
open L2 hiding St
abbrev St := L2.St
section
variable {X : Cx} {pos : Pos}
theorem pg_tupH {es : List Expr} {k : Nat} {t : TGs} {n : Nat} (hc : HotC X) (h : PGs X es t)
    (hn : (assignEach es X.env).length = n := by rfl) (hst : (assignEach es X.env).findIdx? (·.1) = none := by rfl) : PG X (.Tuple es k pos) (gTup X.K n t) :=
  ⟨fun pins s σ H v u Q I r ⟨a, xs, e1, hq, hl, hw⟩ => by
    subst e1
    cases r
    obtain ⟨its, rv, ht, -⟩ := I.tuple hq
    obtain ⟨x1, hot⟩ := hc.at I
    exact assign_Tuple_hot hot ht (by rw [hn, ← hl, rv.length, List.size_toArray]) hst fun h' hx =>
      h.run pins _ σ H xs _ Q (I.kept (t' := s.toks) fun b o e => hx b o (Nat.ne_of_lt (Heap.lt_size e)) e) rv hw⟩
/-- a block's context, the pin of the handled exception with it -/
abbrev blkH (X : Cx) (s : Shared) (H : Hp) (scope : Scope) (cenv : Env) (fp : List Addr) (p : Addr × Obj) : Cx := { X.blk s H scope cenv fp with pn := [p] }
theorem inv_blkH {s s' : Shared} {H H' : Hp} {scope : Scope} {cenv : Env} {fp : List Addr} {p : Addr × Obj} {σ : St} (I : Inv (X.blk s H scope cenv fp) [] σ H' s')
    (hp : s'.heap.get? p.1 = some p.2 ∧ H' p.1 = none ∧ p.1 ≠ cenv.locals ∧ p.1 ∉ frs X.stack ∧ ∀ v, p.2.data ≠ .cell v) : Inv (blkH X s H scope cenv fp p) [] σ H' s' where
  ok := ⟨I.ok.mod, I.ok.kind, I.ok.glob, I.ok.blt, I.ok.above, I.ok.inj, I.ok.has, I.ok.cab, I.ok.hd, I.ok.frames, I.ok.stk, I.ok.exf, I.ok.bs, I.ok.bsz, I.ok.noex, I.ok.exfs, I.ok.funs, I.ok.frf⟩
  os := I.os
  bare := I.bare
  base := I.base
  loc := I.loc
  cell := I.cell
  free := I.free
  freeC := I.freeC
  pin := fun q hq => by
    obtain rfl : q = p := by simpa using (show q ∈ [p] ++ ([] : List (Addr × Obj)) from hq)
    exact hp
  hok := I.hok
  len := I.len
variable {pins : List (Addr × Obj)} {s : Shared} {σ : St} {H : Hp}
theorem lc_hot {Q : VK} {elt tg l : Expr} {ifs : List Expr} {scope : Scope} {own : List (Str × Nat)} {pos' : Pos} {tl : TE} {g : TG} {tt : TT} {te : TE} {use : Option (Value → Sem Unit)} {Qf : Value → Shared → Prop} {p : Addr × Obj}
    (hc : Hot1 X.A p) (hpn : p ∈ X.pn) (hN : X.N.Nodup) (I : Inv X pins σ H s) (hl : PE X l tl) (ok : BlkOk X.N X.env.scope scope own)
    (hb : ∀ (s : Shared) (H : Hp) (C : Addr) (cl : List (Str × Addr)) (fp : List Addr), HotC (blkH X s H scope (compEnvC scope cl C X.env) fp p) → PG (blkH X s H scope (compEnvC scope cl C X.env) fp p) tg g ∧ PTs (blkH X s H scope (compEnvC scope cl C X.env) fp p) ifs tt ∧ PE (blkH X s H scope (compEnvC scope cl C X.env) fp p) elt te)
    (hs : ∀ x, foldedSetIterable l X.env x = pure x) (h : tLc (iList X.K tl) g tt te (own.map (·.2)) σ H Q)
    (fin : ∀ D C s' m H', Inv X pins σ H' s' → Q (.ref D) H' → s'.heap.Ns C m → FpOk X pins H' C → compPost (model X.prog X.w) X.A X.xe use Qf (.ref D) C (.ok .next) s') :
    wpAny (model X.prog X.w) X.A (comprehension (.ListComp elt [⟨tg, l, ifs, 0⟩] scope pos) scope X.env pos' (newList []) false (eval l X.env) use) Qf X.xe s := by
  have hfree : ∀ y ∈ scope.names, y.2 = .free → ∃ c, X.env.cells.lookup y.1 = some c := fun y hy e => (ok.free y hy e).elim (fun k => I.ok.has _ (.inl k)) fun k => I.ok.has _ (.inr k)
  refine wpAny_comprehension_free (use := use) rfl hs (closure_ok hfree) ok.kind (fun y hy e => by rw [ok.uniq y hy, e]) ?_
  refine thn (hl.run pins s σ H _ I h) fun xv s1 ⟨x, H1, I1, r1, a, e, ⟨xs, hq⟩, q⟩ => ?_
  subst e
  cases r1
  obtain ⟨its, rv, pl, -⟩ := I1.list hq
  refine wpAny_pyIter_list pl.isList ?_
  -- the iterator, then the new list
  generalize hit : s1.heap.objs.size = it
  generalize hs2 : ({ s1 with heap := s1.heap.push { cls := .type "list_iterator", data := .fields #[.ref a, .int 0 0] } } : Shared) = s2
  have e2 : s2.heap = s1.heap.push { cls := .type "list_iterator", data := .fields #[.ref a, .int 0 0] } := by rw [← hs2]
  have I2 : Inv X pins σ H1 s2 := by rw [← hs2]; exact I1.kept (t' := s1.toks) fun b o e => Heap.get?_push_of_some _ e
  have st2 : s2.heap.IsListIter it a 0 := by rw [e2, ← hit]; exact ⟨_, Heap.get?_push_size _ rfl, rfl, rfl⟩
  have fit : FpOk X pins H1 it := I1.fpOk (Nat.le_of_eq hit) (I1.hok.fresh (Nat.le_of_eq hit))
  refine wpAny_newObj_type (newEnv_comp ?_) (by show 0 ≤ sizeLine; decide)
  generalize hD : s2.heap.objs.size = D
  obtain ⟨W, ⟨m0, w0⟩, turn⟩ := q D (I2.hok.fresh (Nat.le_of_eq hD))
  generalize hs3 : ({ s2 with heap := s2.heap.push { cls := .type "list", data := .seq ([] : List Value).toArray } } : Shared) = s3
  have e3 : s3.heap = s2.heap.push { cls := .type "list", data := .seq ([] : List Value).toArray } := by rw [← hs3]
  have I3 : Inv X pins σ (upd H1 D (.lst [])) s3 := by
    rw [← hs3]
    refine I2.laid (t' := s2.toks) (fun b o e => Heap.get?_push_of_some _ e) (Nat.le_of_eq hD) ⟨Nat.zero_le _, [], 0, .nil, ?_⟩
    rw [← hD]
    exact Heap.get?_push_size _ rfl
  have lt2 : it < s2.heap.objs.size := by obtain ⟨o, e, -⟩ := id st2; exact Heap.lt_size e
  have st3 : s3.heap.IsListIter it a 0 := by rw [e3]; exact st2.at fun o e => Heap.get?_push_of_some _ e
  have f3 : FpOk X pins (upd H1 D (.lst [])) it := ⟨by rw [upd_ne (by rw [← hD]; exact Nat.ne_of_lt lt2)]; exact fit.1, fit.2⟩
  have P3 := I3.pin p (List.mem_append_left _ hpn)
  have I4 := inv_blkH (p := p) (block_start (fp := [it]) I3 ok hN fun b hb => by
      obtain rfl : b = it := by simpa using hb
      exact ⟨f3, by rw [e3, Heap.size_push]; exact Nat.lt_succ_of_lt lt2⟩)
    ⟨pushCells_keeps _ _ _ _ (Heap.get?_push_of_some _ P3.1), P3.2.1, Nat.ne_of_lt (Heap.lt_size P3.1), fun hm => (List.mem_cons.mp (I3.stkSub p.1 hm)).elim P3.2.2.1 P3.2.2.2.1, P3.2.2.2.2⟩
  obtain ⟨pg, pt, pe⟩ := hb s3 (upd H1 D (.lst [])) s3.heap.objs.size (cellsFrom (s3.heap.objs.size + 1) scope.names (cloFrom X.env.cells scope.names [])) [it] ⟨p, hc, List.mem_cons_self⟩
  show codeAny _ _ (.compStart (.ListComp elt [⟨tg, l, ifs, 0⟩] scope pos) 0 (.ref it) (.ref D) (compEnvC scope (cellsFrom (s3.heap.objs.size + 1) scope.names (cloFrom X.env.cells scope.names [])) s3.heap.objs.size X.env)) (compPost (model X.prog X.w) X.A X.xe use Qf (.ref D) s3.heap.objs.size) { s3 with heap := pushCells (s3.heap.push { cls := .type "dict", data := .dict #[] }) scope.names }
  generalize hce : compEnvC scope (cellsFrom (s3.heap.objs.size + 1) scope.names (cloFrom X.env.cells scope.names [])) s3.heap.objs.size X.env = ce at I4 pg pt pe ⊢
  have cL : ce.locals = s3.heap.objs.size := by subst hce; rfl
  generalize upd H1 D (.lst []) = H3 at *
  generalize hs4 : ({ s3 with heap := pushCells (s3.heap.push { cls := .type "dict", data := .dict #[] }) scope.names } : Shared) = s4 at I4 ⊢
  have st4 : s4.heap.IsListIter it a 0 := by rw [← hs4]; exact st3.at fun o e => pushCells_keeps _ _ _ _ (Heap.get?_push_of_some _ e)
  have np : p.1 ≠ it := f3.2.2.2.2.2 p (List.mem_append_left _ hpn)
  have exf := I4.ok.exf it List.mem_cons_self
  have exs := I4.ok.exfs it List.mem_cons_self
  -- the iterator has gone on
  have gone : ∀ {σ' : St} {H' : Hp} {s' : Shared} {h' : Heap}, Inv (blkH X s3 H3 scope ce [it] p) [] σ' H' s' → H' it = none → (∀ b o, b ≠ it → s'.heap.get? b = some o → h'.get? b = some o) → Inv (blkH X s3 H3 scope ce [it] p) [] σ' H' { s' with heap := h' } := fun {σ' H' s' h'} I' hn k =>
    I'.turned (t' := s'.toks) k hn exf.1 (.inl List.mem_cons_self) exf.2 fun q hq => by
      obtain rfl : q = p := by simpa using (show q ∈ [p] ++ ([] : List (Addr × Obj)) from hq)
      exact np
  have loop : codeAny (model X.prog X.w) X.A (.compLoop (.ListComp elt [⟨tg, l, ifs, 0⟩] scope pos) 0 (.ref it) (.ref D) ce) (compPost (model X.prog X.w) X.A X.xe use Qf (.ref D) s3.heap.objs.size) s4 := by
    refine compLoop_any (fun n s' => ∃ i H', Inv (blkH X s3 H3 scope ce [it] p) [] (wipe σ (own.map (·.2))) H' s' ∧ s'.heap.IsListIter it a i ∧ H' it = none ∧ W i n H') ?_ m0 ⟨0, H3, I4, st4, f3.1, w0⟩
    rintro n s5 ⟨i, H5, I5, st5, n5, w5⟩
    rcases turn i n H5 w5 with ⟨⟨ys, wl, hle⟩, wq⟩ | ⟨⟨ys, y, wl, hy⟩, Nx, hNx, step⟩
    · obtain ⟨its5, rv5, pl5, -⟩ := I5.list wl
      have len5 := rv5.length
      obtain ⟨x1, hot⟩ := HotC.at (X := blkH X s3 H3 scope ce [it] p) ⟨p, hc, List.mem_cons_self⟩ I5
      refine thnF (next_list_end_hot hot st5 pl5.isList (by simp; omega) (Q := fun r s6 => r = none ∧ Inv (blkH X s3 H3 scope ce [it] p) [] (wipe σ (own.map (·.2))) H5 s6) fun h' k => ⟨rfl, gone I5 n5 k⟩) fun r s6 ⟨hr, I6⟩ => ?_
      subst hr
      have I7 : Inv X pins σ H5 s6 := I3.call' (ch := [it]) I6.os I6.base I6.hok I6.bare fun b hb => by
        obtain rfl : b = it := by simpa using hb
        exact ⟨f3.2.2.2.1, f3.2.1, f3.2.2.2.2.1, f3.2.2.2.2.2⟩
      have nC : H5 s3.heap.objs.size = none := by
        have z : H5 ce.locals = none := I6.free
        rwa [cL] at z
      obtain ⟨m, hm, -⟩ := I6.loc
      have hm : s6.heap.Ns ce.locals m := hm
      rw [cL] at hm
      exact fin D s3.heap.objs.size s6 m H5 I7 wq hm (I3.fpOk (Nat.le_refl _) nC)
    · obtain ⟨its5, rv5, pl5, -⟩ := I5.list wl
      obtain ⟨u, hu, ru⟩ := rv5.get hy
      refine thnF (wpAny_pyNext_list_item st5 pl5.isList (x := u) (by simpa using hu) (Q := fun r s6 => r = some u ∧ Inv (blkH X s3 H3 scope ce [it] p) [] (wipe σ (own.map (·.2))) H5 s6 ∧ s6.heap.IsListIter it a (i + 1)) fun h' st' sb => ⟨rfl, gone I5 n5 fun b o hb e => (sb.2 b hb).trans e, st'⟩) fun r s6 ⟨hr, I6, st6⟩ => ?_
      subst hr
      obtain ⟨o6, ho6, hc6, hd6⟩ := id st6
      refine go_of ho6 hc6 hd6 (by decide) ?_
      have I6p : Inv (blkH X s3 H3 scope ce [it] p) [(it, o6)] (wipe σ (own.map (·.2))) H5 s6 := I6.pins_of fun q hq => by
        obtain rfl : q = (it, o6) := by simpa using hq
        exact ⟨ho6, n5, exf.1.symm.symm, exs, fun v z => by rw [hd6] at z; cases z⟩
      refine thnF (pg.run _ s6 _ H5 _ u _ I6p ru (step y H5 ⟨rfl, fun zs hz => by rw [I5.list_inj hz wl]; exact hy⟩)) fun _ s8 ⟨σ8, H8, I8, hw8, q8⟩ => ?_
      refine thnF (pt.run _ s8 σ8 H8 _ I8 q8) fun b s9 ⟨H9, I9, q9⟩ => ?_
      have next : ∀ {s' : Shared} {H' : Hp}, Inv (blkH X s3 H3 scope ce [it] p) [(it, o6)] σ8 H' s' → Nx H' → ∃ m, m < n ∧ ∃ i H', Inv (blkH X s3 H3 scope ce [it] p) [] (wipe σ (own.map (·.2))) H' s' ∧ s'.heap.IsListIter it a i ∧ H' it = none ∧ W i m H' := fun {s' H'} I' nx => by
        have P := I'.pin (it, o6) (by simp)
        obtain ⟨m, hm, w'⟩ := hNx H' nx
        refine ⟨m, hm, i + 1, H', (Inv.pins_of (pins' := []) I' fun q hq => by cases hq).weak (by rw [← hw8, wipe_length]) fun j v e => ?_, ⟨o6, P.1, hc6, hd6⟩, P.2.1, w'⟩
        rw [← hw8] at e
        exact (wipe_some e).1
      cases b with
      | false => exact next I9 q9
      | true =>
        refine thnF (pe.run _ s9 σ8 H9 _ I9 q9) fun z s10 ⟨yv, H10, I10, r10, acc, hD10, hz10, nx⟩ => ?_
        exact app_ok (X := blkH X s3 H3 scope ce [it] p) I10 hD10 hz10 r10 fun s11 I11 => next I11 nx
  exact codeAny_compStart_list loop (wpAny_pyIter_listiter st4 loop)
/-- as a value -/
theorem pe_lcH {elt tg l : Expr} {ifs : List Expr} {scope : Scope} {own : List (Str × Nat)} {tl : TE} {g : TG} {tt : TT} {te : TE} {p : Addr × Obj} (hc : Hot1 X.A p) (hpn : p ∈ X.pn) (hN : X.N.Nodup) (hl : PE X l tl) (ok : BlkOk X.N X.env.scope scope own)
    (hb : ∀ (s : Shared) (H : Hp) (C : Addr) (cl : List (Str × Addr)) (fp : List Addr), HotC (blkH X s H scope (compEnvC scope cl C X.env) fp p) → PG (blkH X s H scope (compEnvC scope cl C X.env) fp p) tg g ∧ PTs (blkH X s H scope (compEnvC scope cl C X.env) fp p) ifs tt ∧ PE (blkH X s H scope (compEnvC scope cl C X.env) fp p) elt te)
    (hs : ∀ x, foldedSetIterable l X.env x = pure x := by intro _; rfl) : PE X (.ListComp elt [⟨tg, l, ifs, 0⟩] scope pos) (tLc (iList X.K tl) g tt te (own.map (·.2))) :=
  ⟨fun pins s σ H Q I h => by
    rw [eval_ListComp]
    exact lc_hot hc hpn hN I hl ok hb hs h fun D C s' m H' I' q hn ⟨f0, f1, f2, f3, f4, f5⟩ => ⟨m, hn, fun h'' sb => ⟨.ref D, H', I'.turned (t' := s'.toks) (fun b o hb e => (sb.2 b hb).trans e) f0 f1 f3 f4 f5, rfl, q⟩⟩⟩
/-- name = [..] on one line, the name a local -/
theorem ps_setLcH {i : Nat} {y : Str} {py spos : Pos} {elt tg l : Expr} {ifs : List Expr} {scope : Scope} {own : List (Str × Nat)} {tl : TE} {g : TG} {tt : TT} {te : TE} {p : Addr × Obj} (hc : Hot1 X.A p) (hpn : p ∈ X.pn) (hN : X.N.Nodup) (hy : X.N[i]? = some y) (hyl : X.env.scope.names.lookup y = some .local)
    (hsw : swapsWith (.ListComp elt [⟨tg, l, ifs, 0⟩] scope pos) (some (.Name y py)) spos.line X.env = pure true) (hl : PE X l tl) (ok : BlkOk X.N X.env.scope scope own)
    (hb : ∀ (s : Shared) (H : Hp) (C : Addr) (cl : List (Str × Addr)) (fp : List Addr), HotC (blkH X s H scope (compEnvC scope cl C X.env) fp p) → PG (blkH X s H scope (compEnvC scope cl C X.env) fp p) tg g ∧ PTs (blkH X s H scope (compEnvC scope cl C X.env) fp p) ifs tt ∧ PE (blkH X s H scope (compEnvC scope cl C X.env) fp p) elt te)
    (hs : ∀ x, foldedSetIterable l X.env x = pure x := by intro _; rfl) : PS X (.Assign [.Name y py] (.ListComp elt [⟨tg, l, ifs, 0⟩] scope pos) spos) (tAsg (tLc (iList X.K tl) g tt te (own.map (·.2))) (gName i)) :=
  ⟨fun pins s σ H D I h => by
    rw [exec_Assign_Name_used _ _ _ _ hsw]
    refine wpAny_bind (wpAny_standAt (wpAny_bind ?_))
    show wpAny _ X.A (do let _ ← comprehension (.ListComp elt [⟨tg, l, ifs, 0⟩] scope pos) scope X.env (firstIterPos [⟨tg, l, ifs, 0⟩] pos) (newList []) false (eval l X.env) (some (assign (.Name y py) X.env))) _ _ s
    refine wpAny_bind (thn (lc_hot (Q := fun x H1 => gName i x σ H1 D.nx) (Qf := fun _ s' => SP X pins D .next s') hc hpn hN I hl ok hb hs h fun L C s' m H' I' q hn ⟨f0, f1, f2, f3, f4, f5⟩ => ?_) fun _ s' hq => wpAny_pure (wpAny_pure hq))
    refine wpAny_assign_Name (store_ok2 (v := V.ref L) I' hN hy (.inl hyl) rfl (fun s2 I2 ⟨a, sb, ha⟩ => ?_) (.inr hyl))
    have haC : C ≠ a := ha.elim (fun z => by rw [z]; exact f1) fun z e => f4 y a z e.symm
    exact ⟨m, hn.sameBut sb haC, fun h3 sb3 => ⟨_, H', I2.turned (t' := s2.toks) (fun b o hb e => (sb3.2 b hb).trans e) f0 f1 f3 f4 f5, q⟩⟩⟩
end
end FLH

/-! FL23: own exceptions raised and caught; defs that run while one is handled. -/
namespace FL
open PySem PySem.Spec PyProof.Rows L2
open L2H (Hot1 HotC PinOk RoomH)
/-- an own class of exceptions, made with a text, below ValueError -/
structure ExcOk (K : PySem.W.Frag) (mg : Str → Option Value) (x : Str) (C : Addr) : Prop where
  g : mg x = some (.ref C)
  k : PySem.W.keepIn K (.ref C) = true
  e : PySem.W.excIn K C [.type "ValueError", .type "Exception", .type "BaseException", .type "object"] "ValueError.__new__" = true
  b : PySem.W.subIn K (.ref C) (.type "BaseException") = some true
  t : PySem.W.typeIn K (.ref C) = some (.type "type")
  x : L2.ExcC K C
section
variable {X : Cx} {L : Lw} {W : WX} {pos p : Pos} {e : Expr} {es : List Expr} {t : TA} {v : Wa}
/-! ### raise -/
def wRaise (c : Addr) : Ws := fun _ E => E.ex (.ref c)
theorem fs_raise {x m : Str} {C : Addr} {j : Nat} {p2 pos' : Pos} (tk : L2N.Takes X W) (h : ExcOk X.K X.mg x C) (hc : X.calm = true := by rfl) (hg : Gl X x := by rfl) (hdb : (x == ("__debug__" : Str)) = false := by decide) :
    FS X L W (.Raise (some (.Call (.Name x p) [.Constant (.str m) j p2] [] pos)) none pos') (fun _ σ H => W (.ref C) none σ H) (wRaise C) :=
  ⟨L2N.ps_raise hc tk (L2N.pmk_own PySem.F.excBase_ValueError h.e h.g h.k (raises_own h.b h.t) hg hdb), fun b F s σ H E D' I h ok => ok.ex _ F s σ H I (Same.refl F) h⟩
/-! ### the caught exception as an argument, its class -/
theorem px_at {K : PySem.W.Frag} {b : Beg} {F : Hp} {s : Sl} {σ : L2.St} {H : Hp} {i : Nat} {a : Addr} (I : Rel K L b F s σ H) (e : s[i]? = some (.px a)) : σ[i]? = some (some (.ref a)) := by
  have e1 : σ.getD i none = some (.ref a) := I.slot i _ e
  have hj : i < σ.length := by rw [I.len]; exact (List.getElem?_eq_some_iff.mp e).1
  rw [List.getD_eq_getElem?_getD, List.getElem?_eq_getElem hj] at e1
  rw [List.getElem?_eq_getElem hj]
  exact congrArg some e1
def wAPx (i : Nat) (wr : Wa) : Wa := fun s Q R => match s[i]? with
  | some (.px a) => wr s (fun xs => Q (.px a :: xs)) R
  | _ => False
theorem fa_px (i : Nat) {x : Str} (hr : FA X L W es t v) (hN : X.N[i]? = some x := by rfl) (hv : Vis X.env.scope x := by first | exact Or.inl rfl | exact Or.inr (Or.inl rfl) | exact Or.inr (Or.inr rfl)) (hd : (x == ("__debug__" : Str)) = false := by decide)
    (hcd : (x == ("__classdict__" : Str)) = false := by decide) (hs : starEach (.Name x pos :: es) X.env = (false, eval (.Name x pos) X.env) :: starEach es X.env := by rfl) : FA X L W (.Name x pos :: es) (tCons (tVar i) t) (wAPx i v) := by
  refine ⟨pa_cons (pv i hN hv hd hcd) hr.pe hs, fun b F s σ H Q R k I h hx kk => ?_⟩
  unfold wAPx at h
  split at h
  · rename_i a q
    refine ⟨_, px_at I q, ?_⟩
    exact hr.snd b F s σ H _ R _ I h hx fun F2 ds vs H2 I2 m2 k2 r2 h2 => kk F2 (.px a :: ds) _ H2 I2 m2 k2 ⟨rfl, r2⟩ h2
  · exact h.elim
theorem call_isH {D : Addr} {p : Addr × Obj} (hp : p ∈ X.pn) (C : L2.ExcC X.K D) (hz : Zc (.ref D) none p.2) (hf : ∃ vs, p.2.data = .fields vs) : CallR X (.builtin "isinstance") (rIsE X.K D p.1) := by
  intro pins s σ H xs us Q I r h
  obtain ⟨c, cv, b, rfl, hcv, e, q⟩ := h
  cases r with
  | cons rx rr =>
    cases rr with
    | cons rt rr =>
      cases rr
      cases rx
      have ec := hcv _ rt
      subst ec
      obtain ⟨hget, -⟩ := I.pin p (List.mem_append_left _ hp)
      obtain ⟨vs, hv⟩ := hf
      have J : PySem.W.InstAt s.heap p.1 p.2 D none := by
        obtain ⟨a, oc, od, oda, osl⟩ := p
        obtain ⟨h1, h2⟩ := hz
        dsimp only at h1 h2 hv
        subst h1 h2 hv
        exact ⟨hget, rfl, rfl, trivial⟩
      exact PySem.W.kia_one (PySem.W.handS_kitx_exc C.hg C.hk C.hs C.hd C.ha C.hn C.ht C.hm) I.kIn J e (fun z => nomatch z) fun tk => ⟨.bl b, H, I.kept (t' := tk) fun _ _ z => z, rfl, q⟩
def wIsX (i : Nat) (a : Addr) (b : Bool) : We := fun s Q _ => s[i]? = some (.px a) ∧ Q (.bool b)
theorem fe_isx (i : Nat) {n x : Str} {C D : Addr} {b : Bool} {p2 p3 : Pos} {q : Addr × Obj} (hp : q ∈ X.pn) (hz : Zc (.ref D) none q.2) (hf : ∃ vs, q.2.data = .fields vs) (hD : L2.ExcC X.K D) (hx : X.mg x = some (.ref C)) (hk : PySem.W.kitOne X.K (.ref D) (.ref C) = some b)
    (hm : X.mg "isinstance" = none) (hb : bootBuiltins "isinstance" = some (.builtin "isinstance")) (hg : Gl X "isinstance" := by rfl) (hgx : Gl X x := by rfl) (hdx : (x == ("__debug__" : Str)) = false := by decide)
    (hN : X.N[i]? = some n := by rfl) (hv : Vis X.env.scope n := by first | exact Or.inl rfl | exact Or.inr (Or.inl rfl) | exact Or.inr (Or.inr rfl)) (hd : (n == ("__debug__" : Str)) = false := by decide) (hcd : (n == ("__classdict__" : Str)) = false := by decide)
    (he : starEach (.Name n p2 :: [.Name x p3]) X.env = (false, eval (.Name n p2) X.env) :: starEach [.Name x p3] X.env := by rfl) (he2 : starEach [.Name x p3] X.env = (false, eval (.Name x p3) X.env) :: starEach [] X.env := by rfl) :
    FE X L W (.Call (.Name "isinstance" p) [.Name n p2, .Name x p3] [] pos) (tCB (rIsE X.K D q.1) (tCons (tVar i) (tCons (tC (.ref C)) tNil))) (wIsX i q.1 b) := by
  refine ⟨pe_callB (call_isH hp hD hz hf) hg hm hb (pa_cons (pv i hN hv hd hcd) (pa_cons (pe_glob hgx hx rfl hdx) pa_nil he2) he) (by decide) (by decide) he rfl, fun b' F s σ H Q R k I h hx kk => ?_⟩
  exact ⟨_, px_at I h.1, _, _, b, rfl, fun u r => r, hk, kk F _ _ H I (Same.refl F) Kp.refl (.bl b) h.2⟩
/-! ### defs that run while an exception is handled -/
structure FnT (P : Program) (w : World) (K : PySem.W.Frag) (mg : Str → Option Value) (base : Heap) (L : Lw) (k : Nat) (f : Addr) (fd : FuncData) (ps : List Str) (D : Addr) (sp : Addr → Fs) : Prop where
  run : ∀ (A : Around) (outer : List Env) (s : Shared) (H : Hp) (args : Args) (us : List Value) (vs : List V) (Q : VK) (p : Addr × Obj), RoomH k A → Hot1 A p → PinOk outer H s p → Zc (.ref D) none p.2 → Env0 P w K mg base A outer s H → BindsTo s fd args (ps.zip us) → Vals vs us → vs.length = ps.length →
    Spf K L (sp p.1) vs H Q (fun _ _ _ => False) → codeAny (model P w) A (.call (.ref f) args) (CR (L2N.CX P w) outer P w H s Q (fun _ _ _ => False)) s
theorem fn_flatT {P : Program} {w : World} {K : PySem.W.Frag} {mg : Str → Option Value} {base : Heap} {x qual : Str} {st : Stmt} {f D : Addr} {fd : FuncData} {N ps : List Str} {k : Nat} {sp : Addr → Fs} (Fn : Fun K x qual st f fd) (S : FnScope N ps (defScope st))
    (hbody : ∀ (cdv : Value), fd.code = cdv → ∀ (A : Around) (outer : List Env) (s : Shared) (H : Hp) (p : Addr × Obj), Hot1 A p → Zc (.ref D) none p.2 → (∃ vs, p.2.data = .fields vs) →
      ∃ t ws, FSs (L2H.cxH (L2N.CX P w) P w K mg base N qual (defScope st) f cdv A outer s H (fun _ _ _ => False) p) L (fun _ _ _ _ => False) (defBody st) t ws ∧ ∀ cs q r, sp p.1 cs q r → ws (startS N.length cs) { nx := fun _ => q .none, rt := q, ex := fun _ => False }) :
    FnT P w K mg base L (k + 1) f fd ps D sp := by
  obtain ⟨oc, od, kV, doc, pm, an, cdv, ct, osl, rfl, lk, hcd⟩ := Fn.ex
  refine ⟨fun A outer s H args us vs Q p hr hot hpin hz e0 hb r hl hsp => ?_⟩
  have KX : K.In s.heap := e0.mod.kin.keeps fun b o e => (e0.bs b o e).1
  have hkind : ∀ y ∈ ps.zip us, (defScope st).names.lookup y.1 = some .local ∨ ((defScope st).names.lookup y.1 = some .cell ∧ ((cellsFrom (s.heap.objs.size + 1) (defScope st).names []).lookup y.1).isSome = true) := fun ⟨n, v⟩ hy =>
    (S.par n (List.of_mem_zip hy).1).elim .inl fun q => .inr ⟨q, PySem.W.cellsFrom_some _ _ _ (.inl q)⟩
  refine codeAny_call_function hr.depth (KX _ _ lk) rfl S.co S.gen rfl (PySem.W.codeRec_of KX hcd) (hb _ _ _ _ ?_)
  refine wpAny_newFunctionEnv_cells S.kind hkind fun env he s1 x => ?_
  subst he
  refine ⟨(e0.mod.nolimit.keeps fun b o e => (e0.bs b o e).1).keeps x.toInCall.keep, codeAny_func ?_⟩
  obtain ⟨t, ws, hd, hq⟩ := hbody cdv rfl A outer s H p hot hz (let ⟨vs, h, _⟩ := hot.2; ⟨vs, h⟩)
  obtain ⟨b, F, cs, q, rr, g, ha, hw, h1, h2⟩ := hsp
  have I := L2H.inv_startH (CX := L2N.CX P w) (E := fun _ _ _ => False) S hpin e0 hl r x
  refine wpAny_mono (hd.pe.run [] s1 (L2.start N vs) H { nx := fun _ H' => Q .non H', rt := Q } I (hd.snd b F _ _ H { nx := fun _ => q .none, rt := q, ex := fun _ => False } _ (rel_start g ha) (hq cs q rr hw)
    ⟨fun F' s' σ' H' I m z => h1 F' .non .none H' I.toGrd m .non z, fun F' s' σ' H' v d I m r z => h1 F' v d H' I.toGrd m r z, fun F' s' σ' H' I m z => z.elim, fun F' s' σ' H' I m z => z.elim, fun cls F' s' σ' H' I m z => z.elim, fun F' s' σ' H' p vs ds I m fr e r z => z.elim⟩)) (fun fl s' hs => ?_) fun e s' hs => hs
  cases fl with
  | ret u =>
    obtain ⟨v, σ', H', J, rv, q⟩ := hs
    exact ⟨v, H', J.os, J.bare, J.base, J.hok, rv, q⟩
  | next =>
    obtain ⟨σ', H', J, q⟩ := hs
    exact ⟨.non, H', J.os, J.bare, J.base, J.hok, rfl, q⟩
  | brk =>
    obtain ⟨_, _, _, q⟩ := hs
    exact False.elim q
  | cont =>
    obtain ⟨_, _, _, q⟩ := hs
    exact False.elim q
/-- a call while an exception is handled: none leaves it -/
def wCallT (w : Fs) (v : Wa) : We := fun s Q _ => v s (fun cs => w cs Q fun _ => False) fun _ => False
theorem fe_callT {x : Str} {k : Nat} {f D : Addr} {fd : FuncData} {ps : List Str} {w : Addr → Fs} {q : Addr × Obj} (G : FnT X.prog X.w X.K X.mg X.base L k f fd ps D w) (hr : RoomH k X.A) (hp : q ∈ X.pn) (hot : Hot1 X.A q) (hz : Zc (.ref D) none q.2) (hm : X.mg x = some (.ref f)) (hk : PySem.W.keepIn X.K (.ref f) = true) (hb : Binds X.K fd ps [])
    (len : ∀ cs Q R, w q.1 cs Q R → cs.length = ps.length) (ha : FA X L W (e :: es) t v) (hg : Gl X x := by rfl) (hdb : (x == ("__debug__" : Str)) = false := by decide) (he : starEach (e :: es) X.env = (false, eval e X.env) :: starEach es X.env := by rfl) (hpl : (backTo pos (starEach es X.env)).any (·.1) = false := by rfl) :
    FE X L W (.Call (.Name x p) (e :: es) [] pos) (fun σ H Q => t σ H fun vs H1 => vs.length = ps.length ∧ Spf X.K L (w q.1) vs H1 Q (fun _ _ _ => False)) (wCallT (w q.1) v) := by
  refine ⟨⟨fun pins s σ H Q I h => ?_⟩, fun b F s σ H Q R k I h hx kk => ?_⟩
  · refine wpAny_Call_Name_kw (ld_glob I hg hm ?_ hdb)
    refine PySem.W.callWith_K (h₀ := X.base) I.ok.mod.kin hk (thn (ha.pe.run pos pins s σ H _ I h) fun us s1 ⟨vs, H1, I1, r, hl, q1⟩ => ⟨I1.kIn, ?_⟩) he hpl
    have b := hb s1 us I1.kIn (by rw [List.append_nil, ← r.length]; exact hl)
    rw [List.append_nil] at b
    have P1 := I1.pin q (List.mem_append_left _ hp)
    refine wpAny_call (codeAny_mono (G.run X.A X.stack s1 H1 ⟨us, []⟩ us vs Q q hr hot ⟨P1.1, P1.2.1, fun hm => (List.mem_cons.mp (I1.stkSub q.1 hm)).elim P1.2.2.1 P1.2.2.2.1, P1.2.2.2.2⟩ hz I1.env0 b r hl q1) fun r s' hq => ?_)
    cases r with
    | error e => exact L2N.passAt (W := fun _ _ _ _ => False) (fun u s' ⟨_, _, _, _, _, _, _, _, _, _, _, _, _, _, _, _, z⟩ => z.elim) σ pins H1 s1 e s' I1 hq
    | ok fl =>
      cases fl with
      | ret u => exact I1.after hq
      | next => exact False.elim hq
      | brk => exact False.elim hq
      | cont => exact False.elim hq
  · refine ha.snd b F s σ H _ (fun _ => False) _ I h (fun _ _ _ _ _ z => z.elim) fun F1 cs vs H1 I1 m1 k1 r1 h1 => ⟨by rw [r1.len]; exact len _ _ _ h1, ⟨H1, F1, b.dr⟩, F1, cs, Q, fun _ => False, I1.toGrd.enter, r1.at, h1, fun F' v d H' g m r q => ?_, fun cls F' H' g m q => ?_⟩
    · exact kk F' d v H' (I1.back g) (m1.trans m) (k1.trans g.keep) r q
    · exact q.elim
end
end FL

/-! FL24: comprehensions while an exception is handled; try. -/
namespace FL
open PySem PySem.Spec PyProof.Rows L2
open L2H (Hot1 HotC PinOk RoomH)
open FLH (blkH)
section
variable {X : Cx} {L : Lw} {W : WX} {pos p : Pos} {e tg l elt : Expr} {es tgs ifs : List Expr} {te tl : TE} {we wl' : We} {g : TG} {gs : TGs} {wg : Wg} {wgs : List D → Sl → (Sl → Prop) → Prop} {vs : List Nat} {tt : TT} {wt : Wt} {scope : Scope} {own : List (Str × Nat)} {q : Addr × Obj}
def wListI (we : We) : Wl := fun s Q R => we s (fun d => match d with | .list ds => Q ds | _ => False) R
theorem snd_iList (he : FE X L W e te we) : SndI X.K L W (iList X.K te) (wListI we) := by
  intro b F s σ H Q R k I h hx kk
  refine he.snd b F s σ H _ R _ I h hx fun F1 d v H1 I1 m1 k1 r1 q => ?_
  cases r1 with
  | lst h1 h2 => exact ⟨_, rfl, ⟨_, I1.sub.seq h1⟩, kk F1 _ _ H1 I1 m1 k1 (wkd_list h1 h2) q⟩
  | _ => exact q.elim
theorem fc_tupH {k n : Nat} (hc : HotC X) (h : FGcs X L vs tgs gs wgs) (hn : (assignEach tgs X.env).length = n := by rfl) (hst : (assignEach tgs X.env).findIdx? (·.1) = none := by rfl) : FGc X L vs (.Tuple tgs k pos) (gTup X.K n gs) (wgTup n wgs) :=
  { pe := FLH.pg_tupH hc h.toFGs.pe hn hst
    snd := fun b F s σ H v d Q k I r q kk => by
      unfold wgTup at q
      split at q
      · cases r with
        | tup h1 h2 => exact ⟨_, _, rfl, same_sqT I.sub h1, by rw [dps_len h2]; exact q.1, h.toFGs.snd b F s σ H _ _ _ _ I h2 q.2 kk⟩
      · exact q.elim
    only := fun v σ H k k' ⟨a, xs, e, h1, h2, h3⟩ q => ⟨a, xs, e, h1, h2, h.only xs σ H k k' h3 q⟩ }
structure BlkT (X : Cx) (L : Lw) (scope : Scope) (q : Addr × Obj) (vs : List Nat) (tg elt : Expr) (ifs : List Expr) (g : TG) (tt : TT) (te : TE) (wg : Wg) (wt : Wt) (we : We) : Prop where
  g : ∀ (s : Shared) (H : Hp) (C : Addr) (cl : List (Str × Addr)) (fp : List Addr), HotC (blkH X s H scope (compEnvC scope cl C X.env) fp q) → FGc (blkH X s H scope (compEnvC scope cl C X.env) fp q) L vs tg g wg
  t : ∀ (s : Shared) (H : Hp) (C : Addr) (cl : List (Str × Addr)) (fp : List Addr), HotC (blkH X s H scope (compEnvC scope cl C X.env) fp q) → FTs (blkH X s H scope (compEnvC scope cl C X.env) fp q) L WF ifs tt wt
  e : ∀ (s : Shared) (H : Hp) (C : Addr) (cl : List (Str × Addr)) (fp : List Addr), HotC (blkH X s H scope (compEnvC scope cl C X.env) fp q) → FE (blkH X s H scope (compEnvC scope cl C X.env) fp q) L WF elt te we
theorem BlkT.pes (h : BlkT X L scope q vs tg elt ifs g tt te wg wt we) : ∀ (s : Shared) (H : Hp) (C : Addr) (cl : List (Str × Addr)) (fp : List Addr), HotC (blkH X s H scope (compEnvC scope cl C X.env) fp q) → PG (blkH X s H scope (compEnvC scope cl C X.env) fp q) tg g ∧ PTs (blkH X s H scope (compEnvC scope cl C X.env) fp q) ifs tt ∧ PE (blkH X s H scope (compEnvC scope cl C X.env) fp q) elt te :=
  fun s H C cl fp hot => ⟨(h.g s H C cl fp hot).pe, (h.t s H C cl fp hot).pe, (h.e s H C cl fp hot).pe⟩
theorem BlkT.snd (h : BlkT X L scope q vs tg elt ifs g tt te wg wt we) (hc : Hot1 X.A q) (hl : FE X L W l tl wl') : SndN X.K L W (tLc (iList X.K tl) g tt te vs) (wLc (wListI wl') wg wt we vs) := by
  have hot : HotC (blkH X X.s_0 X.H_0 scope (compEnvC scope [] 0 X.env) [] q) := ⟨q, hc, List.mem_cons_self⟩
  exact snd_lc (snd_iList hl) ⟨_, _, h.g X.s_0 X.H_0 0 [] [] hot, rfl⟩ (h.t X.s_0 X.H_0 0 [] [] hot).snd (h.e X.s_0 X.H_0 0 [] [] hot).snd
theorem fn_lcH (hc : Hot1 X.A q) (hpn : q ∈ X.pn) (hN : X.N.Nodup) (hl : FE X L W l tl wl') (ok : BlkOk X.N X.env.scope scope own) (h : BlkT X L scope q (own.map (·.2)) tg elt ifs g tt te wg wt we) (hs : ∀ x, foldedSetIterable l X.env x = pure x := by intro _; rfl) :
    FN X L W (.ListComp elt [⟨tg, l, ifs, 0⟩] scope pos) (tLc (iList X.K tl) g tt te (own.map (·.2))) (wLc (wListI wl') wg wt we (own.map (·.2))) :=
  ⟨FLH.pe_lcH hc hpn hN hl.pe ok h.pes hs, h.snd hc hl⟩
theorem fs_setLcH {i : Nat} {y : Str} {py spos : Pos} (hc : Hot1 X.A q) (hpn : q ∈ X.pn) (hN : X.N.Nodup) (hl : FE X L W l tl wl') (ok : BlkOk X.N X.env.scope scope own) (h : BlkT X L scope q (own.map (·.2)) tg elt ifs g tt te wg wt we) (hy : X.N[i]? = some y := by rfl) (hyl : X.env.scope.names.lookup y = some .local := by rfl)
    (hsw : swapsWith (.ListComp elt [⟨tg, l, ifs, 0⟩] scope pos) (some (.Name y py)) spos.line X.env = pure true := by rfl) (hs : ∀ x, foldedSetIterable l X.env x = pure x := by intro _; rfl) :
    FS X L W (.Assign [.Name y py] (.ListComp elt [⟨tg, l, ifs, 0⟩] scope pos) spos) (tAsg (tLc (iList X.K tl) g tt te (own.map (·.2))) (gName i)) (wSetL i (wLc (wListI wl') wg wt we (own.map (·.2)))) := by
  refine ⟨FLH.ps_setLcH hc hpn hN hy hyl hsw hl.pe ok h.pes hs, fun b F s σ H E D' I h' ok' => ?_⟩
  refine h.snd hc hl b F s σ H _ E.ex _ I h' ok'.exw fun F1 ds q vs H1 I1 m1 k1 fr e1 r1 z => ?_
  have I2 := I1.tell fr.h0 fr.hd e1 fr.hf (fun ps z => by cases z) fr.hn
  exact ok'.nx _ _ _ H1 (I2.put (.lst (.inl (.inl upd_same)) (dps_mono (same_upd fr.hf) r1))) (m1.trans (same_upd fr.hf)) z
/-! ### try -/
/-- a block's reading, as a term of its own -/
def semS (K : PySem.W.Frag) (L : Lw) (W : WX) (w : Ws) : TS := fun D σ H => ∃ b F s E, Rel K L b F s σ H ∧ w s E ∧ EnOk K L W b F E D
theorem FSs.sem {sts : List Stmt} {t : TS} {w : Ws} (h : FSs X L W sts t w) : PSs X sts (semS X.K L W w) :=
  ⟨fun pins s σ H D I ⟨b, F, sl, E, R, hw, ok⟩ => h.pe.run pins s σ H D I (h.snd b F sl σ H E D R hw ok)⟩
theorem rel_none {K : PySem.W.Frag} {b : Beg} {F : Hp} {s : Sl} {σ : L2.St} {H : Hp} (R : Rel K L b F s σ H) (i : Nat) (a : Addr) : Rel K L b F ((List.replicate s.length .no).set i (.px a)) (σ.set i (some (.ref a))) H :=
  { R.toGrd with
    len := by rw [List.length_set, List.length_set, List.length_replicate, R.len]
    slot := fun j c e => by
      rw [List.getElem?_set] at e
      split at e
      · split at e
        · cases e
          rename_i h1 h2
          subst h1
          rw [List.length_replicate] at h2
          rw [List.getD_eq_getElem?_getD, List.getElem?_set, if_pos rfl, if_pos (by rw [R.len]; exact h2)]
          rfl
        · cases e
      · rw [List.getElem?_replicate] at e
        split at e
        · cases e; trivial
        · cases e
    apart := fun j k a n h1 => by
      exfalso
      rw [List.getElem?_set] at h1
      split at h1
      · split at h1 <;> exact h1
      · rw [List.getElem?_replicate] at h1
        split at h1 <;> exact h1 }
/-- what is left of the slots in an except suite: the exception alone -/
def sufS (n i : Nat) (a : Addr) : Sl := (List.replicate n .no).set i (.px a)
def wTry (n i : Nat) (wb : Ws) (Ds : List Addr) (w2 : Addr → Addr → Ws) : Ws := fun s E => wb s { E with ex := fun cls => ∃ D ∈ Ds, cls = .ref D ∧ ∀ a, w2 D a (sufS n i a) { nx := fun s' => E.nx (s'.set i .no), rt := E.rt, ex := fun _ => False, bk := fun s' => E.bk (s'.set i .no), ct := fun s' => E.ct (s'.set i .no), rn := E.rn } }
theorem fs_try {x n : Str} {i : Nat} {S : Addr} {Ds : List Addr} {body suite : List Stmt} {b₀ : Stmt} {np pos' : Pos} {wb : Ws} {w2 : Addr → Addr → Ws} (hN : X.N.Nodup) (hS : X.mg x = some (.ref S)) (hD : ∀ D ∈ Ds, PySem.W.exmOne X.K (.ref D) (.ref S) = some true) (tk : L2N.Takes X W)
    (hb : ∀ (W' : WX) (pn : List (Addr × Obj)) (xe : Value → Shared → Prop), L2N.Takes (X.tr pn xe) W' → PassesOwn (model X.prog X.w) X.A X.env xe → ∃ t, FSs (X.tr pn xe) L W' body t wb)
    (hsu : ∀ D ∈ Ds, ∀ (a : Addr) (oe : Obj) (pn : List (Addr × Obj)), Zc (.ref D) none oe → Hot1 (X.A.mark (some (.ref a))) (a, oe) → ∃ t, FSs (X.suite a ((a, oe) :: pn)) L (fun _ _ _ _ => False) (b₀ :: suite) t (w2 D a))
    (hs : X.stack = X.env :: X.outer := by rfl) (hf : X.env.frame = some X.env.locals := by rfl) (hi : X.N[i]? = some n := by rfl) (hln : X.env.kindOf n = some .local := by rfl) (hg : Gl X x := by rfl) (hdb : (x == ("__debug__" : Str)) = false := by decide) :
    FS X L W (.Try body [.ExceptHandler (some (.Name x np)) (some n) (b₀ :: suite) pos'] [] [] pos)
      (fun D σ H => semS X.K L (L2.wAs X.K (.ref S) i (fun a cls d D σ H => ∃ D0 ∈ Ds, cls = .ref D0 ∧ d = none ∧ (σ.length = X.N.length → semS X.K L (fun _ _ _ _ => False) (w2 D0 a) D σ H)) W D) wb D σ H) (wTry X.N.length i wb Ds w2) := by
  refine ⟨L2N.ps_try_as hs hf hN hi hln ⟨hg, hdb, .inl hS⟩ tk (tb := fun W' => semS X.K L W' wb) (ts := fun a cls d D σ H => ∃ D0 ∈ Ds, cls = .ref D0 ∧ d = none ∧ (σ.length = X.N.length → semS X.K L (fun _ _ _ _ => False) (w2 D0 a) D σ H))
    (fun W' pn xe tk' po => (hb W' pn xe tk' po).elim fun t h => FSs.sem (X := X.tr pn xe) h) (fun a oe cls d pn hz hf' => ?_), fun b F s σ H E D' I h ok => ?_⟩
  · refine ⟨fun pins s σ H D I ⟨D0, hm, e1, e2, hq⟩ => ?_⟩
    subst e1 e2
    obtain ⟨vs, hv⟩ := hf'
    obtain ⟨t, ht⟩ := hsu D0 hm a oe pn ⟨hz.1, hz.2.1⟩ ⟨rfl, vs, hv, hz.2.2 vs hv⟩
    exact ht.sem.run pins s σ H D I (hq I.len)
  · refine ⟨b, F, s, _, I, h, fun F' s' σ' H' I' m z => ok.nx F' s' σ' H' I' m z, fun F' s' σ' H' v d I' m r z => ok.rt F' s' σ' H' v d I' m r z, fun F' s' σ' H' I' m z => ok.bk F' s' σ' H' I' m z, fun F' s' σ' H' I' m z => ok.ct F' s' σ' H' I' m z, fun cls F' s' σ' H' I' m z => ?_, fun F' s' σ' H' p vs ds I' m fr e r z => ok.rn F' s' σ' H' p vs ds I' m fr e r z⟩
    obtain ⟨D0, hm, rfl, hw⟩ := z
    refine ⟨true, hD D0 hm, fun _ a _ => ⟨D0, hm, rfl, rfl, fun hl => ?_⟩, fun z => Bool.noConfusion z⟩
    rw [List.length_set] at hl
    have hn : s'.length = X.N.length := by rw [← I'.len]; exact hl
    refine ⟨b, F', sufS X.N.length i a, _, by unfold sufS; rw [← hn]; exact rel_none I' i a, hw a, ?_⟩
    have ok' := ok.mono m
    exact ⟨fun F1 s1 σ1 H1 I1 m1 z => ok'.nx F1 _ _ H1 I1.drop1 m1 z, fun F1 s1 σ1 H1 v d I1 m1 r z => ok'.rt F1 s1 σ1 H1 v d I1 m1 r z, fun F1 s1 σ1 H1 I1 m1 z => ok'.bk F1 _ _ H1 I1.drop1 m1 z, fun F1 s1 σ1 H1 I1 m1 z => ok'.ct F1 _ _ H1 I1.drop1 m1 z, fun cls F1 s1 σ1 H1 I1 m1 z => z.elim,
      fun F1 s1 σ1 H1 p vs ds I1 m1 fr e r z => ok'.rn F1 s1 σ1 H1 p vs ds I1 m1 fr e r z⟩
theorem FSs.any {ι : Type} {P : ι → Prop} {sts : List Stmt} {w : ι → Ws} (h : ∀ i, P i → ∃ t, FSs X L W sts t (w i)) : FSs X L W sts (semS X.K L W fun s E => ∃ i, P i ∧ w i s E) (fun s E => ∃ i, P i ∧ w i s E) :=
  ⟨⟨fun pins s σ H D I ⟨b, F, sl, E, R, ⟨i, hi, hw⟩, ok⟩ => (h i hi).elim fun t ht => ht.pe.run pins s σ H D I (ht.snd b F sl σ H E D R hw ok)⟩, fun b F s σ H E D' I h ok => ⟨b, F, s, E, I, h, ok⟩⟩
theorem room_mark {k : Nat} {A : Around} (r : RoomH k A) (v : Option Value) : RoomH k (A.mark v) := ⟨r.dp, r.un⟩
theorem exc_one {C : Addr} {P : Addr → Prop} (h : P C) : ∃ D ∈ [C], Value.ref C = .ref D ∧ P D := ⟨C, List.mem_cons_self, rfl, h⟩
/-! ### == of scalars, wherever -/
def dEqS : D → D → (Bool → Prop) → Prop := fun d e Q => scalD d e = true ∧ Q (PyData.eqv d e)
def dNeS : D → D → (Bool → Prop) → Prop := fun d e Q => scalD d e = true ∧ Q (!PyData.eqv d e)
theorem cmd_eqS : CmD X L .Eq rEq dEqS :=
  ⟨op_eq, ⟨by decide, by decide⟩, fun b F s σ H x y d e Q k I hx hy q kk => by
    obtain ⟨h1, h2⟩ := scal_eq (hx.at I.sub) (hy.at I.sub) q.1
    exact ⟨h1, by rw [h2]; exact kk _ q.2⟩⟩
theorem cmd_neS : CmD X L .NotEq rNe dNeS :=
  ⟨op_ne, ⟨by decide, by decide⟩, fun b F s σ H x y d e Q k I hx hy q kk => by
    obtain ⟨h1, h2⟩ := scal_eq (hx.at I.sub) (hy.at I.sub) q.1
    exact ⟨h1, by rw [h2]; exact kk _ q.2⟩⟩
end
end FL

/-! FL25: a list as what is unpacked. -/
namespace FL
open PySem PySem.Spec PyProof.Rows L2
section
variable {X : Cx} {L : Lw} {W : WX} {pos p : Pos} {tgs : List Expr} {gs : TGs} {wgs : List D → Sl → (Sl → Prop) → Prop}
def wgLst (n : Nat) (wgs : List D → Sl → (Sl → Prop) → Prop) : Wg := fun d s Q => match d with
  | .list ds => ds.length = n ∧ wgs ds s Q
  | _ => False
theorem fg_lst {k n : Nat} (hc : X.calm = true) (h : FGs X L tgs gs wgs) (hn : (assignEach tgs X.env).length = n := by rfl) (hst : (assignEach tgs X.env).findIdx? (·.1) = none := by rfl) : FG X L (.Tuple tgs k pos) (gLst X.K n gs) (wgLst n wgs) := by
  refine ⟨pg_lst hc h.pe hn hst, fun b F s σ H v d Q k I r q kk => ?_⟩
  unfold wgLst at q
  split at q
  · cases r with
    | lst h1 h2 => exact ⟨_, _, rfl, I.sub.seq h1, by rw [dps_len h2]; exact q.1, h.snd b F s σ H _ _ _ _ I h2 q.2 kk⟩
  · exact q.elim
end
end FL

/-! FL26: zip, a row turned round, items of an own list raised. -/
namespace FLR
open PySem PySem.Spec PyProof.Rows HT
section
variable {prog : Program} {w : World} {A : Around} {E : Value → Shared → Prop} {s : Shared}
theorem adjust_rev (n : Nat) : Builtin.Slice.sliceAdjust none none (-1) (n : Int) = ((n : Int) - 1, -1) := by
  unfold Builtin.Slice.sliceAdjust
  simp
theorem places_rev (n : Nat) : Builtin.Slice.slicePlaces ((n : Int) - 1) (-1) (-1) = n := by
  unfold Builtin.Slice.slicePlaces
  have h1 : ¬ ((-1 : Int) > 0) := by omega
  simp only [h1, if_false, Int.neg_neg, Int.ediv_one]
  split <;> omega
theorem sliceApplied_rev {sl : Addr} {n : Nat} {vs : Value} {Q : Int × Int × Nat → Shared → Prop} (hs : s.heap.IsSliceOf sl .none .none vs) (ps : IsPart vs (some (-1)))
    (h : Q ((n : Int) - 1, -1, n) s) : wpAny (model prog w) A (Builtin.Slice.sliceApplied (.ref sl) (pure (n : Int))) Q E s := by
  obtain ⟨os, hos, hcs, hds⟩ := id hs
  unfold Builtin.Slice.sliceApplied Builtin.Slice.sliceFields
  refine wpAny_bind (wpAny_bind (wpAny_field hos hds (x := .none) rfl (wpAny_bind (wpAny_field hos hds (x := .none) rfl (wpAny_bind (wpAny_field hos hds (x := vs) rfl (wpAny_pure ?_)))))))
  refine wpAny_bind (slicePart_ ps ?_)
  show wpAny _ _ (if ((-1 : Int) == 0) = true then _ else _) _ _ s
  rw [if_neg (by decide)]
  refine wpAny_bind (slicePart_none (wpAny_bind (slicePart_none (wpAny_bind (wpAny_pure ?_)))))
  show wpAny _ _ (match Builtin.Slice.sliceAdjust none none (-1) (n : Int) with | (lo, hi) => pure (lo, (-1 : Int), Builtin.Slice.slicePlaces lo hi (-1))) _ _ s
  rw [adjust_rev]
  show wpAny _ _ (pure ((n : Int) - 1, (-1 : Int), Builtin.Slice.slicePlaces ((n : Int) - 1) (-1) (-1))) _ _ s
  rw [places_rev]
  exact wpAny_pure h
theorem fm_some {α β : Type} {f : α → Option β} {g : α → β} : ∀ {l : List α}, (∀ x ∈ l, f x = some (g x)) → l.filterMap f = l.map g
  | [], _ => rfl
  | x :: l, h => by
    rw [List.filterMap_cons, h x List.mem_cons_self, List.map_cons]
    exact congrArg _ (fm_some fun y hy => h y (List.mem_cons_of_mem x hy))
theorem pick_rev (xs : Array Value) : ((List.range xs.size).filterMap fun (k : Nat) => xs[((xs.size : Int) - 1 + (k : Int) * -1).toNat]?).toArray = xs.toList.reverse.toArray := by
  congr 1
  apply List.ext_getElem?
  intro i
  have e : (fun (k : Nat) => xs[((xs.size : Int) - 1 + (k : Int) * -1).toNat]?) = fun k => xs.toList[xs.size - 1 - k]? := by
    funext m
    rw [Array.getElem?_toList]
    congr 1
    omega
  rw [e]
  have e2 : (List.range xs.size).filterMap (fun k => xs.toList[xs.size - 1 - k]?) = (List.range xs.toList.length).map fun k => xs.toList.reverse.getD k Value.none := by
    have hl : xs.size = xs.toList.length := by simp
    rw [hl]
    generalize xs.toList = l
    refine fm_some fun k hk => ?_
    have hk := List.mem_range.mp hk
    rw [List.getD_eq_getElem?_getD, List.getElem?_reverse hk, List.getElem?_eq_getElem (by omega)]
    rfl
  rw [e2]
  by_cases hi : i < xs.toList.length
  · rw [List.getElem?_map, List.getElem?_range hi, List.getElem?_eq_getElem (by simpa using hi)]
    simp only [Option.map_some, List.getD_eq_getElem?_getD]
    rw [List.getElem?_eq_getElem (by simpa using hi)]
    rfl
  · rw [List.getElem?_eq_none (by simp at hi ⊢; omega), List.getElem?_eq_none (by simp at hi ⊢; omega)]
theorem getItem_tuple_rev {t sl : Addr} {items : Array Value} {vs : Value} {Q : Value → Shared → Prop} (ht : IsTup s.heap t items) (hs : s.heap.IsSliceOf sl .none .none vs) (ps : IsPart vs (some (-1)))
    (h : Q (.ref s.heap.objs.size) { s with heap := s.heap.push { cls := .type "tuple", data := .seq items.toList.reverse.toArray } })
    (hsz : items.size ≤ sizeLine) : wpAny (model prog w) A (getItem (.ref t) (.ref sl)) Q E s := by
  have htake : sizeOk (.seq items.toList.reverse.toArray) := by
    show items.toList.reverse.toArray.size ≤ sizeLine
    simpa using hsz
  obtain ⟨os, hos, hcs, hds⟩ := id hs
  have hTs : s.TypeIs (.ref sl) "slice" := ⟨os, hos, hcs⟩
  unfold getItem
  try with_reducible refine wpAny_holding ?_
  first | refine wpAny_bind (wpAny_pure ?_) | skip
  refine wpAny_bind (wpAny_sequenceKey ht.typeIs (by decide) ?_)
  refine wpAny_bind (wpAny_callSpecial?_slot (name := Str.ofString "__getitem__") ht.typeIs PyProof.Rows.slot_tuple_getitem
    (wpAny_call_entry PyProof.Rows.slot_tuple_getitem ht.typeIs entry_tuple_getitem ?_ (args_tuple_getitem _ _)))
  show wpAny _ _ (Builtin.Tuple.tupleItemsOf (.ref t) >>= _) _ _ s
  refine wpAny_bind (tupleItemsOf_ ht ?_)
  refine wpAny_bind (wpAny_typeOf hTs ?_)
  rw [if_pos (by decide)]
  refine wpAny_bind (sliceApplied_rev hs ps ?_)
  have hno : ¬ ((((items.size : Int) - 1) == 0 && (-1 : Int) == 1 && items.size == items.size) = true) := by
    intro q
    rw [Bool.and_eq_true, Bool.and_eq_true] at q
    exact absurd q.1.2 (by decide)
  show wpAny _ _ (if (((items.size : Int) - 1) == 0 && (-1 : Int) == 1 && items.size == items.size) = true then _ else _) _ _ s
  rw [if_neg hno, pick_rev]
  first
    | exact wpAny_bind (m := Builtin.Tuple.tupleExact _) (wpAny_newObj_type (wpAny_pure ⟨_, rfl, wpAny_pure h⟩) htake)
    | exact wpAny_bind (m := Builtin.Tuple.tupleExact _) (wpAny_newObj_type (wpAny_bind (wpAny_pure (wpAny_pure ⟨_, rfl, wpAny_pure h⟩))) htake)
    | exact wpAny_bind (wpAny_bind (m := Builtin.Tuple.tupleExact _) (wpAny_newObj_type (wpAny_pure (wpAny_pure ⟨_, rfl, wpAny_pure h⟩)) htake))
    | exact wpAny_bind (wpAny_bind (m := Builtin.Tuple.tupleExact _) (wpAny_newObj_type (wpAny_pure ⟨_, rfl, wpAny_pure h⟩) htake))
end
end FLR
namespace FL
open PySem PySem.Spec PyProof.Rows L2
section
variable {X : Cx} {L : Lw} {W : WX} {pos p p1 p2 p3 : Pos} {a c e e2 : Expr} {ta tb te : TE} {wa wb we : We} {t : TA} {wl : Wl}
/-- xs[::-1] of a list or a tuple -/
def tRevA (K : PySem.W.Frag) (te : TE) : TE := fun σ H Q => te σ H fun x H1 => ∃ a xs, x = .ref a ∧ ((SqL K H1 a xs ∧ ∀ p, H1 p = none → Q (.ref p) (upd H1 p (.lst xs.reverse))) ∨ (SqT K H1 a xs ∧ ∀ p, H1 p = none → Q (.ref p) (upd H1 p (.tup xs.reverse))))
theorem pe_revA {e : Expr} {te : TE} {k : Nat} (he : PE X e te) : PE X (.Subscript e (.Slice none none (some (.UnaryOp .USub (.Constant (.int 1) k p1) p2)) p3) pos) (tRevA X.K te) := by
  refine ⟨fun pins s σ H Q I h => ?_⟩
  refine Subscript_ (thn (he.run pins s σ H _ I h) fun v s1 ⟨x, H1, I1, r1, q1⟩ => ?_)
  obtain ⟨a, xs, ex, q1⟩ := q1
  subst ex
  cases r1
  have hst : PO X (some (.UnaryOp .USub (.Constant (.int 1) k p1) p2)) (tPart (tUn (rU fun i => .int (-i)) (tC (.int 1)))) := po_some (pe_un un_neg pe_int)
  refine wpAny_Slice (thn (po_none.run pins s1 σ H1 (fun o H2 => o = none ∧ H2 = H1) I1 ⟨rfl, rfl⟩) fun vl s2 ⟨l, H2, I2, pl, el, e2⟩ => ?_)
  subst el e2
  refine thn (po_none.run pins s2 σ H2 (fun o H3 => o = none ∧ H3 = H2) I2 ⟨rfl, rfl⟩) fun vu s3 ⟨u, H3, I3, pu, eu, e3⟩ => ?_
  subst eu e3
  refine thn (hst.run pins s3 σ H3 (fun o H4 => o = some (-1) ∧ H4 = H3) I3 ⟨1, rfl, -1, rfl, rfl, rfl⟩) fun vs s4 ⟨o, H4, I4, ps, eo, e4⟩ => ?_
  subst eo e4
  have I5 : Inv X pins σ H4 { s4 with heap := s4.heap.push { cls := .type "slice", data := .fields #[vl, vu, vs] } } := I4.kept (t' := s4.toks) fun b ob q => Heap.get?_push_of_some _ q
  rcases q1 with ⟨hx, q⟩ | ⟨hx, q⟩
  · obtain ⟨its, r, ht, hz⟩ := I5.list hx
    have hlen := r.length
    show wpAny (model X.prog X.w) X.A (subscriptTail e (.Slice none none (some (.UnaryOp .USub (.Constant (.int 1) k p1) p2)) p3) (.ref a) (.ref s4.heap.objs.size)) (EP X pins σ Q) X.xe { s4 with heap := s4.heap.push { cls := .type "slice", data := .fields #[vl, vu, vs] } }
    refine tail_any (ops := [.ref a, .ref s4.heap.objs.size]) ht.isList.typeIs (PySem.slot_list_getitem.lookup) ?_ (by with_unfolding_all rfl)
    refine wpAny_getItem_list_slice ht.isList (Heap.IsSliceOf.new _ vl vu vs) pl pu ps (by decide) ?_ (by rw [List.size_toArray]; omega)
    rw [PySem.W.krv_pick]
    refine ⟨.ref _, _, I5.laid (t' := s4.toks) (o := .lst xs.reverse) (fun b ob q => Heap.get?_push_of_some _ q) (Nat.le_refl _) ?_, rfl, q _ (I5.hok.fresh (Nat.le_refl _))⟩
    exact ⟨by rw [List.length_reverse]; exact hz, _, 0, r.reverse, Heap.get?_push_size _ rfl⟩
  · obtain ⟨its, r, ht, hz⟩ := I5.tuple hx
    have hlen := r.length
    show wpAny (model X.prog X.w) X.A (subscriptTail e (.Slice none none (some (.UnaryOp .USub (.Constant (.int 1) k p1) p2)) p3) (.ref a) (.ref s4.heap.objs.size)) (EP X pins σ Q) X.xe { s4 with heap := s4.heap.push { cls := .type "slice", data := .fields #[vl, vu, vs] } }
    refine tail_any (ops := [.ref a, .ref s4.heap.objs.size]) ht.typeIs (PyProof.Rows.slot_tuple_getitem.lookup) ?_ (by with_unfolding_all rfl)
    cases pl
    cases pu
    refine FLR.getItem_tuple_rev ht (Heap.IsSliceOf.new _ .none .none vs) ps ?_ (by rw [List.size_toArray]; omega)
    refine ⟨.ref _, _, I5.laid (t' := s4.toks) (o := .tup xs.reverse) (fun b ob q => Heap.get?_push_of_some _ q) (Nat.le_refl _) ?_, rfl, q _ (I5.hok.fresh (Nat.le_refl _))⟩
    exact ⟨by rw [List.length_reverse]; exact hz, _, r.reverse, IsTup.new _ _⟩
def dRev : D → (D → Prop) → Prop := fun d Q => match d with
  | .list ds => Q (.list ds.reverse)
  | .tuple ds => Q (.tuple ds.reverse)
  | _ => False
def wRevA (wa : We) : We := fun s Q R => wa s (fun d => dRev d Q) R
def wRevN (wa : We) : Wl := fun s Q R => wa s (fun d => match d with | .list ds => Q ds.reverse | _ => False) R
theorem fe_rev {k : Nat} (ha : FB X L W a ta wa) : FE X L W (.Subscript a (.Slice none none (some (.UnaryOp .USub (.Constant (.int 1) k p1) p2)) p3) pos) (tRevA X.K ta) (wRevA wa) := by
  refine ⟨pe_revA ha.pe, fun b F s σ H Q R k I h hx kk => ?_⟩
  refine ha.snd b F s σ H _ R _ I h hx fun F1 d v H1 I1 m1 k1 r1 h1 => ?_
  unfold dRev at h1
  split at h1
  · rename_i ds
    have lay : ∀ {vs : List V}, DtAll X.K F1 vs ds → ∀ z, H1 z = none → k (.ref z) (upd H1 z (.lst vs.reverse)) := fun {vs} r z hz =>
      kk _ _ _ _ (I1.new1 hz (fun ps y => by cases y)) (m1.trans (same_upd (I1.f_none hz))) (k1.trans (Kp.of (same_upd hz))) (.lst (.inl (.inl upd_same)) (dps_mono (same_upd (I1.f_none hz)) (dps_rev r))) h1
    rcases r1 with r1 | ⟨x, vs, ds', rfl, e2, e3, e4, e5⟩
    · cases r1 with
      | lst q1 q2 => exact ⟨_, _, rfl, .inl ⟨I1.sub.seq q1, lay q2⟩⟩
    · cases e2
      exact ⟨_, _, rfl, .inl ⟨.inl (.inl e4), lay e5⟩⟩
  · rename_i ds
    rcases r1 with r1 | ⟨x, vs, ds', rfl, e2, e3, e4, e5⟩
    · cases r1 with
      | tup q1 q2 => exact ⟨_, _, rfl, .inr ⟨same_sqT I1.sub q1, fun z hz =>
          kk _ _ _ _ (I1.new1 hz (fun ps y => by cases y)) (m1.trans (same_upd (I1.f_none hz))) (k1.trans (Kp.of (same_upd hz))) (.tup (.inl (.inl upd_same)) (dps_mono (same_upd (I1.f_none hz)) (dps_rev q2))) h1⟩⟩
    · cases e2
  · exact h1.elim
/-! ### zip -/
def prT (a b : D) : D := .tuple [a, b]
def zipT (xs ys : List D) : List D := List.zipWith prT xs ys
def wZip (wl : Wl) : Wl := fun s Q R => wl s (fun ds => match ds with
  | [.list xs, .list ys] => Q (zipT xs ys)
  | [.tuple xs, .tuple ys] => Q (zipT xs ys)
  | _ => False) R
theorem zip_at {xs ys : List V} {ds es : List D} {K : PySem.W.Frag} {F : Hp} {i : Nat} {x y : V} (h1 : DtAll K F xs ds) (h2 : DtAll K F ys es) (e1 : xs[i]? = some x) (e2 : ys[i]? = some y) : ∃ d e, (zipT ds es)[i]? = some (prT d e) ∧ Dt K F x d ∧ Dt K F y e := by
  obtain ⟨d, hd, r1⟩ := dps_getv h1 e1
  obtain ⟨e, he, r2⟩ := dps_getv h2 e2
  exact ⟨d, e, by unfold zipT; rw [List.getElem?_zipWith, hd, he], r1, r2⟩
/-- pairs made turn by turn -/
theorem wkd_pair {K : PySem.W.Frag} {b : Beg} {F : Hp} {J : It} {n : Nat} {G : Hp → Prop} {f g : Nat → Option V} {ds : List D} (hw : Walk J n G (YPair f g)) (hn : n = ds.length)
    (hG : ∀ (b1 : Beg) F1 s1 σ1 H1, Rel K L b1 F1 s1 σ1 H1 → Same F F1 → G H1)
    (hY : ∀ F1, Same F F1 → ∀ i x y, f i = some x → g i = some y → ∃ d e, ds[i]? = some (prT d e) ∧ Dt K F1 x d ∧ Dt K F1 y e) : WalkD K L b F (fun _ _ => True) J ds := by
  subst hn
  intro b1 F1 s1 σ1 H1 I1 m1 _
  have gg := hG b1 F1 s1 σ1 H1 I1 m1
  refine ⟨fun i hi => hw.goes i H1 hi gg, hw.stops H1 gg, fun i x H' hi y => ?_⟩
  obtain ⟨T, u, v, rfl, hT, rfl, e1, e2⟩ := hw.yields i H1 x H' hi gg y
  obtain ⟨d, e, e3, r1, r2⟩ := hY F1 m1 i u v e1 e2
  have sm := same_upd (o := HO.tup [u, v]) (I1.f_none hT)
  exact ⟨_, _, e3, I1.new1 hT (fun ps z => by cases z), sm, Kp.of (same_upd hT), .tup (.inl (.inl upd_same)) (.cons (dp_mono sm r1) (.cons (dp_mono sm r2) .nil))⟩
theorem walk_zipT {K : PySem.W.Frag} {a b : Addr} {xs ys : List V} {n : Nat} (hn : n = min xs.length ys.length) : Walk (RZ.ItzT K a b) n (fun H => SqT K H a xs ∧ SqT K H b ys) (YPair (fun i => xs[i]?) (fun i => ys[i]?)) := by
  subst hn
  refine ⟨fun i _ hi q => ?_, fun _ q => ⟨xs, ys, q.1, q.2, by omega⟩, fun i H v H' _ q y => ?_⟩
  · have h1 : i < xs.length := by omega
    have h2 : i < ys.length := by omega
    exact ⟨xs, ys, xs[i], ys[i], q.1, q.2, by simp [h1], by simp [h2]⟩
  · obtain ⟨T, x, z, h1, h2, h3, h4, h5⟩ := y
    exact ⟨T, x, z, h1, h2, h3, h4 xs q.1, h5 ys q.2⟩
theorem fi_zip {elts : List Expr} {kk : Nat} {tpos : Pos} (hm : X.mg "zip" = none) (ha : FLs X L W [e, e2] t wl) (hg : Gl X "zip" := by rfl)
    (hs : starEach [e, e2] X.env = (false, eval e X.env) :: starEach [e2] X.env := by rfl) (hpl : (backTo pos (starEach [e2] X.env)).any (·.1) = false := by rfl) :
    FI X L W (.Tuple elts kk tpos) (.Call (.Name "zip" p) [e, e2] [] pos) (RZ.iZipA X.K t) (wZip wl) := by
  refine ⟨RZ.pi_zipA hg hm ha.pe hs hpl, fun b F s σ H Q R k I h hx kk => ?_⟩
  refine ha.snd b F s σ H _ R _ I h hx fun F1 ds vs H1 I1 m1 k1 r1 q => ?_
  split at q
  · cases r1 with
    | cons h1 h2 =>
      cases h2 with
      | cons h2 h3 =>
        cases h3
        cases h1 with
        | lst q1 q2 =>
          cases h2 with
          | lst q3 q4 =>
            exact ⟨_, _, _, _, rfl, .inl ⟨I1.sub.seq q1, I1.sub.seq q3, kk F1 _ _ H1 I1 m1 k1 (wkd_pair (walk_zip rfl) (by unfold zipT; rw [List.length_zipWith, dps_len q2, dps_len q4]) (fun _ F2 _ _ _ I2 m2 => ⟨I2.sub.seq (m2.seq q1), I2.sub.seq (m2.seq q3)⟩)
              fun F2 m2 i x y e1 e2 => zip_at (dps_mono m2 q2) (dps_mono m2 q4) e1 e2) q⟩⟩
  · cases r1 with
    | cons h1 h2 =>
      cases h2 with
      | cons h2 h3 =>
        cases h3
        cases h1 with
        | tup q1 q2 =>
          cases h2 with
          | tup q3 q4 =>
            exact ⟨_, _, _, _, rfl, .inr ⟨same_sqT I1.sub q1, same_sqT I1.sub q3, kk F1 _ _ H1 I1 m1 k1 (wkd_pair (walk_zipT rfl) (by unfold zipT; rw [List.length_zipWith, dps_len q2, dps_len q4]) (fun _ F2 _ _ _ I2 m2 => ⟨same_sqT I2.sub (same_sqT m2 q1), same_sqT I2.sub (same_sqT m2 q3)⟩)
              fun F2 m2 i x y e1 e2 => zip_at (dps_mono m2 q2) (dps_mono m2 q4) e1 e2) q⟩⟩
  · exact q.elim
end
end FL

/-! FL27: an item of an own list, raised by a number. -/
namespace FL
open PySem PySem.Spec PyProof.Rows L2
section
variable {X : Cx} {L : Lw} {W : WX} {pos p p2 : Pos} {a c : Expr} {ta tb : TE} {wa wb : We}
def rGetL (K : PySem.W.Frag) : V → V → Hp → VK → Prop := fun o i H Q => ∃ q xs k x, o = .ref q ∧ i = .int k ∧ SqL K H q xs ∧ 0 ≤ k ∧ xs[k.toNat]? = some x ∧ Q x H
theorem get_list : PGet X (rGetL X.K) := by
  intro pins s σ H o i ov iv Q I ro ri h
  obtain ⟨q, xs, k, x, rfl, rfl, hq, h0, hx, hQ⟩ := h
  cases ro
  obtain ⟨t, rfl⟩ := ri
  obtain ⟨its, r, pl, hz⟩ := I.list hq
  obtain ⟨w, ew, rw'⟩ := r.get hx
  have hl := r.length
  have hn := line63
  have hk : k.toNat < xs.length := (List.getElem?_eq_some_iff.mp hx).1
  exact wpAny_getItem_list pl.isList h0 (by omega) (by simpa using ew) ⟨x, H, I, rw', hQ⟩
/-- xs[i] += n -/
def wAugi (i : Nat) (wi wv : We) : Ws := fun s E => match s[i]? with
  | some (.ow ds) => wi s (fun j => match j with
    | .int j => 0 ≤ j ∧ ∃ m, ds[j.toNat]? = some (.int m) ∧ wv s (fun d => match d with
      | .int n => E.nx (s.set i (.ow (ds.set j.toNat (.int (m + n)))))
      | _ => False) E.ex
    | _ => False) E.ex
  | _ => False
theorem fs_augi (i : Nat) {x : Str} (hi : FE X L W c tb wb) (ha : FE X L W a ta wa) (hN : X.N[i]? = some x := by rfl) (hv : Vis X.env.scope x := by first | exact Or.inl rfl | exact Or.inr (Or.inl rfl) | exact Or.inr (Or.inr rfl)) (hd : (x == ("__debug__" : Str)) = false := by decide)
    (hcd : (x == ("__classdict__" : Str)) = false := by decide) (hA : ∀ ov iv new, augStore c ov iv new = (do holding [new, ov, iv] (setItem ov iv new); release [new, ov, iv] []; pure .next) := by intros; rfl) :
    FS X L W (.AugAssign (.Subscript (.Name x p) c p2) .Add a pos) (tAugS (tVar i) tb ta (rGetL X.K) (ipI fun i j => i + j) rSetL) (wAugi i wb wa) := by
  refine ⟨ps_augS (pv i hN hv hd hcd) hi.pe get_list ha.pe ip_add set_list hA, fun b F s σ H E D' I h ok => ?_⟩
  unfold wAugi at h
  split at h
  · rename_i ds q
    obtain ⟨z, vs, e1, _⟩ := slot_ref I q
    refine ⟨_, e1, hi.snd b F s σ H _ E.ex _ I h ok.exw fun F1 j vj H1 I1 m1 k1 r1 q1 => ?_⟩
    split at q1
    · rename_i jj
      cases r1
      obtain ⟨j0, m, em, q1⟩ := q1
      obtain ⟨z', vs', e1', h0, hd1, hf, hh, hs1⟩ := slot_ref I1 q
      rw [e1] at e1'
      cases e1'
      obtain ⟨u, eu, ru⟩ := dps_get hs1 em
      cases ru
      refine ⟨z, vs', _, _, rfl, rfl, .inl (.inl hh), j0, eu, ha.snd b F1 s σ H1 _ E.ex _ I1 q1 (ok.mono m1).exw fun F2 d v H2 I2 m2 k2 r2 q2 => ?_⟩
      obtain ⟨z', vs2, e1', h0, hd1, hf, hh, hs1⟩ := slot_ref I2 q
      rw [e1] at e1'
      cases e1'
      split at q2
      · cases r2
        have hlt : jj.toNat < ds.length := (List.getElem?_eq_some_iff.mp em).1
        refine ⟨_, _, rfl, rfl, z, vs2, jj, jj.toNat, rfl, rfl, hh, ?_, ok.nx F2 _ _ _ (I2.grow q e1 (dps_set (.int _) jj.toNat hs1)) (m1.trans m2) q2⟩
        rw [dps_len hs1]
        have := ix_lt hlt
        rwa [Int.toNat_of_nonneg j0] at this
      · exact q2.elim
    · exact q1.elim
  · exact h.elim
end
end FL

/-! FL28: sum, max and min of a tuple of ints. -/
namespace FL
open PySem PySem.Spec PyProof.Rows L2
section
variable {X : Cx} {L : Lw}
theorem readsAll_vals {h : Heap} : ∀ {ns : List Int} {its : List Value}, Vals (ns.map V.int) its → ReadsAll h its (ns.map PyData.int) []
  | [], _, r => by cases r; exact .nil
  | n :: ns, _, r => by
    cases r with
    | cons h1 h2 =>
      obtain ⟨t, rfl⟩ := h1
      exact .cons (.int n t) (readsAll_vals h2)
theorem fold_min : ∀ (n : Int) (ns : List Int), ns.foldl min n ∈ n :: ns ∧ ∀ y ∈ n :: ns, ns.foldl min n ≤ y
  | n, [] => ⟨List.mem_cons_self, fun y hy => by rw [List.mem_singleton.mp hy]; exact Int.le_refl _⟩
  | n, k :: ns => by
    obtain ⟨h1, h2⟩ := fold_min (min n k) ns
    rw [List.foldl_cons]
    refine ⟨?_, fun y hy => ?_⟩
    · rcases List.mem_cons.mp h1 with h | h
      · rw [h]
        rcases (show min n k = n ∨ min n k = k by omega) with e | e <;> rw [e] <;> simp
      · exact List.mem_cons_of_mem _ (List.mem_cons_of_mem _ h)
    · have h3 := h2 (min n k) List.mem_cons_self
      rcases List.mem_cons.mp hy with h | h
      · omega
      · rcases List.mem_cons.mp h with h | h
        · omega
        · exact h2 y (List.mem_cons_of_mem _ h)
theorem fold_max : ∀ (n : Int) (ns : List Int), ns.foldl max n ∈ n :: ns ∧ ∀ y ∈ n :: ns, y ≤ ns.foldl max n
  | n, [] => ⟨List.mem_cons_self, fun y hy => by rw [List.mem_singleton.mp hy]; exact Int.le_refl _⟩
  | n, k :: ns => by
    obtain ⟨h1, h2⟩ := fold_max (max n k) ns
    rw [List.foldl_cons]
    refine ⟨?_, fun y hy => ?_⟩
    · rcases List.mem_cons.mp h1 with h | h
      · rw [h]
        rcases (show max n k = n ∨ max n k = k by omega) with e | e <;> rw [e] <;> simp
      · exact List.mem_cons_of_mem _ (List.mem_cons_of_mem _ h)
    · have h3 := h2 (max n k) List.mem_cons_self
      rcases List.mem_cons.mp hy with h | h
      · omega
      · rcases List.mem_cons.mp h with h | h
        · omega
        · exact h2 y (List.mem_cons_of_mem _ h)
theorem depth_ints : ∀ ns : List Int, PyData.depthAll (ns.map PyData.int) = 0
  | [] => rfl
  | n :: ns => by
    rw [List.map_cons, PyData.depthAll, depth_ints ns]
    rfl
def SqA (K : PySem.W.Frag) (H : Hp) (a : Addr) (xs : List V) : Prop := SqL K H a xs ∨ SqT K H a xs
def rSumA (K : PySem.W.Frag) : List V → Hp → VK → Prop := fun vs H Q => ∃ (a : Addr) (ns : List Int), vs = [V.ref a] ∧ SqA K H a (ns.map V.int) ∧ Q (.int ns.sum) H
def rMaxA (K : PySem.W.Frag) : List V → Hp → VK → Prop := fun vs H Q => ∃ (a : Addr) (ns : List Int), vs = [V.ref a] ∧ SqA K H a (ns.map V.int) ∧ 0 < ns.length ∧ ∀ m, m ∈ ns → (∀ y, y ∈ ns → y ≤ m) → Q (.int m) H
def rMinA (K : PySem.W.Frag) : List V → Hp → VK → Prop := fun vs H Q => ∃ (a : Addr) (ns : List Int), vs = [V.ref a] ∧ SqA K H a (ns.map V.int) ∧ 0 < ns.length ∧ ∀ m, m ∈ ns → (∀ y, y ∈ ns → m ≤ y) → Q (.int m) H
theorem cr_sumA (hc : X.calm = true) : CallR X (.builtin "sum") (rSumA X.K) := by
  intro pins s σ H vs us Q I r h
  obtain ⟨a, ns, rfl, hs, q⟩ := h
  rcases hs with hs | hs
  · exact cr_sum hc pins s σ H _ us Q I r ⟨a, ns, rfl, hs, q⟩
  · obtain ⟨its, rv, hl, _⟩ := I.tuple hs
    rw [Vals.ref1 r]
    have hi := rv.ints
    obtain ⟨xs, e⟩ := hi.allInts.items
    have hn : PySem.numsOf (intItems xs).toList = ns := by rw [← e]; exact hi.numsOf
    rw [PySem.nums_intItems] at hn
    rw [e] at hl
    refine PySem.W.ktm_sumG (I.ok.hd hc) hl fun h' tk t' hk => ⟨.int _, H, I.kept hk, ⟨_, rfl⟩, ?_⟩
    rw [preSum_eq, List.take_of_length_le (by simp), hn]
    exact q
theorem cr_maxT (hc : X.calm = true) (hu : X.A.units + 65 < cLine) : CallR X (.builtin "max") (rMaxA X.K) := by
  intro pins s σ H vs us Q I r h
  obtain ⟨a, ns, rfl, hs, hn, q⟩ := h
  rcases hs with hs | hs
  · exact cr_max hc pins s σ H _ us Q I r ⟨a, ns, rfl, hs, hn, q⟩
  · obtain ⟨its, rv, hl, _⟩ := I.tuple hs
    rw [Vals.ref1 r]
    match ns, hn with
    | n :: ns, _ =>
    refine PySem.W.max_tuple_data (I.ok.hd hc) hl (x := .int n) (xs := ns.map .int) (as := []) (by simpa using readsAll_vals rv) (PySem.W.alikeAll_datum (n :: ns)) (by rw [show PyData.int n :: ns.map .int = (n :: ns).map .int from rfl, depth_ints]; omega) fun i v h' tk bs hv hm hk => ?_
    rw [PySem.W.maxD_ints] at hm
    cases hm
    obtain ⟨h1, h2⟩ := fold_max n ns
    exact ⟨.int _, H, I.kept hk, ⟨_, rfl⟩, q _ h1 h2⟩
theorem cr_minT (hc : X.calm = true) (hu : X.A.units + 65 < cLine) : CallR X (.builtin "min") (rMinA X.K) := by
  intro pins s σ H vs us Q I r h
  obtain ⟨a, ns, rfl, hs, hn, q⟩ := h
  rcases hs with hs | hs
  · exact cr_min hc pins s σ H _ us Q I r ⟨a, ns, rfl, hs, hn, q⟩
  · obtain ⟨its, rv, hl, _⟩ := I.tuple hs
    rw [Vals.ref1 r]
    match ns, hn with
    | n :: ns, _ =>
    refine PySem.W.min_tuple_data (I.ok.hd hc) hl (x := .int n) (xs := ns.map .int) (as := []) (by simpa using readsAll_vals rv) (PySem.W.alikeAll_datum (n :: ns)) (by rw [show PyData.int n :: ns.map .int = (n :: ns).map .int from rfl, depth_ints]; omega) fun i v h' tk bs hv hm hk => ?_
    rw [PySem.W.minD_ints] at hm
    cases hm
    obtain ⟨h1, h2⟩ := fold_min n ns
    exact ⟨.int _, H, I.kept hk, ⟨_, rfl⟩, q _ h1 h2⟩
def dIntsA (w : List Int → (D → Prop) → Prop) : D → (D → Prop) → Prop := fun d Q => match d with
  | .list ds => ∃ ns : List Int, ds = ns.map .int ∧ w ns Q
  | .tuple ds => ∃ ns : List Int, ds = ns.map .int ∧ w ns Q
  | _ => False
theorem calb_intsA {f : Value} {r : List V → Hp → VK → Prop} {w : List Int → (D → Prop) → Prop} (o : CallR X f r)
    (h : ∀ (F H : Hp) (a : Addr) (ns : List Int) (Q : D → Prop) (k : VK), SqA X.K H a (ns.map V.int) → w ns Q → (∀ c v, (∀ F, Dt X.K F v c) → Q c → k v H) → r [.ref a] H k) : CalB X L f r (dIntsA w) := by
  refine ⟨o, fun b F s σ H v d Q k I hv q kk => ?_⟩
  unfold dIntsA at q
  split at q
  · obtain ⟨ns, rfl, q⟩ := q
    rcases hv with hv | ⟨a, vs, ds', rfl, e2, e3, e4, e5⟩
    · cases hv with
      | lst q1 q2 =>
        have e := dps_ints q2
        subst e
        exact h F H _ ns Q k (.inl (I.sub.seq q1)) q fun c v r z => kk F c v H I (Same.refl F) Kp.refl (r F) z
    · cases e2
      have e := dps_ints e5
      subst e
      exact h F H _ ns Q k (.inl (.inl (.inl e4))) q fun c v r z => kk F c v H I (Same.refl F) Kp.refl (r F) z
  · obtain ⟨ns, rfl, q⟩ := q
    rcases hv with hv | ⟨a, vs, ds', rfl, e2, e3, e4, e5⟩
    · cases hv with
      | tup q1 q2 =>
        have e := dps_ints q2
        subst e
        exact h F H _ ns Q k (.inr (same_sqT I.sub q1)) q fun c v r z => kk F c v H I (Same.refl F) Kp.refl (r F) z
    · cases e2
  · exact q.elim
theorem cal_sumA (hc : X.calm = true := by rfl) : CalB X L (.builtin "sum") (rSumA X.K) (dIntsA fun ns Q => Q (.int ns.sum)) :=
  calb_intsA (cr_sumA hc) fun F H a ns Q k h q kk => ⟨a, ns, rfl, h, kk _ _ (fun _ => .int _) q⟩
theorem cal_maxT {k : Nat} (hr : Room k X.A) (hc : X.calm = true := by rfl) : CalB X L (.builtin "max") (rMaxA X.K) (dIntsA dMaxL) :=
  calb_intsA (cr_maxT hc (by have := hr.un; omega)) fun F H a ns Q k h q kk => ⟨a, ns, rfl, h, q.1, fun m h1 h2 => kk _ _ (fun _ => .int _) (q.2 m h1 h2)⟩
theorem cal_minT {k : Nat} (hr : Room k X.A) (hc : X.calm = true := by rfl) : CalB X L (.builtin "min") (rMinA X.K) (dIntsA dMinL) :=
  calb_intsA (cr_minT hc (by have := hr.un; omega)) fun F H a ns Q k h q kk => ⟨a, ns, rfl, h, q.1, fun m h1 h2 => kk _ _ (fun _ => .int _) (q.2 m h1 h2)⟩
end
end FL

/-! FL29: a tuple, any number of times. -/
namespace FLR
open PySem PySem.Spec PyProof.Rows L2
theorem tuple_mulW1 (l : Addr) (items : Array Value) (n : Nat) (dd : Option Addr) (sl : Array (Option Value)) (x : Int) (u : Tok) (c0 : (decide (x < -(2 ^ 63)) || decide (x ≥ 2 ^ 63)) = false) (c1 : (items.isEmpty || x == 1) = true) :
    Meets (Builtin.«tuple.__mul__» ⟨[.ref l, .int x u], []⟩) (fun _ R s => s.heap.get? l = some { cls := .type "tuple", dict := dd, data := .seq items n, slots := sl } ∧ R (.ok (.ret (Value.ref l))) { s with heap := s.heap, toks := s.toks }) :=
  .of_wp fun prog w A R s h => by
    obtain ⟨hp, g, d, tk, os⟩ := s
    obtain ⟨hl, h⟩ := h
    have f1 := AutoSeq1.idx_int
    have f2 := AutoSeq1.sub_tuple_tuple
    wp_walk using wpAny_loadPart' hl
    repeat (first
      | (refine wpAny_ite_false (decide_eq_false (by rw [c0]; exact Bool.false_ne_true)) ?_; wp_walk using wpAny_loadPart' hl)
      | (refine wpAny_ite_true (decide_eq_true (by rw [c1])) ?_; wp_walk using wpAny_loadPart' hl))
    exact ⟨_, rfl, h⟩
theorem tuple_mulW0 (l : Addr) (items : Array Value) (n : Nat) (dd : Option Addr) (sl : Array (Option Value)) (x : Int) (u : Tok) (c0 : (decide (x < -(2 ^ 63)) || decide (x ≥ 2 ^ 63)) = false) (c1 : (items.isEmpty || x == 1) = false) (c2 : (decide (x ≤ 0) || items.isEmpty) = true) :
    Meets (Builtin.«tuple.__mul__» ⟨[.ref l, .int x u], []⟩) (fun _ R s => s.heap.get? l = some { cls := .type "tuple", dict := dd, data := .seq items n, slots := sl } ∧
      R (.ok (.ret (Value.ref s.heap.objs.size))) { s with heap := s.heap.push { cls := Value.type "tuple", data := Data.seq #[] }, toks := s.toks }) :=
  .of_wp fun prog w A R s h => by
    obtain ⟨hp, g, d, tk, os⟩ := s
    obtain ⟨hl, h⟩ := h
    have f1 := AutoSeq1.idx_int
    wp_walk using wpAny_loadPart' hl
    repeat (first
      | (refine wpAny_ite_false (decide_eq_false (by rw [c0]; exact Bool.false_ne_true)) ?_; wp_walk using wpAny_loadPart' hl)
      | (refine wpAny_ite_false (decide_eq_false (by rw [c1]; exact Bool.false_ne_true)) ?_; wp_walk using wpAny_loadPart' hl)
      | (refine wpAny_ite_true (decide_eq_true (by rw [c2])) ?_; wp_walk using wpAny_loadPart' hl))
    exact ⟨_, rfl, h⟩
section
variable {X : Cx}
/-- t * k: for k = 1 or no t it is t itself -/
def rRepA (K : PySem.W.Frag) : R2 := fun x y H Q => ∃ l k xs, x = .ref l ∧ y = .int k ∧ SqT K H l xs ∧ -1000 ≤ k ∧ k ≤ 1000 ∧ xs.length ≤ 1000 ∧ ((k = 1 ∨ xs = []) → Q (.ref l) H) ∧ ∀ p, H p = none → Q (.ref p) (upd H p (.tup (List.replicate k.toNat xs).flatten))
theorem op_repA : OpR X (binaryOp .Mult) (rRepA X.K) := by
  intro pins s σ H x y v u Q I rx ry h
  obtain ⟨l, k, xs, rfl, rfl, hT, h1, h2, hz, q0, q⟩ := h
  by_cases c : k = 1 ∨ xs = []
  · cases rx
    obtain ⟨t, rfl⟩ := ry
    obtain ⟨its, r, ⟨⟨cls, dd, data, sl⟩, ho, hc, n, hd⟩, hs⟩ := I.tuple hT
    simp only at hc hd
    subst hc hd
    have hle : its.length = xs.length := r.length.symm
    have c0 : (decide (k < -(2 ^ 63)) || decide (k ≥ 2 ^ 63)) = false := by
      rw [decide_eq_false (by omega), decide_eq_false (by omega)] <;> rfl
    have c1 : (its.toArray.isEmpty || k == 1) = true := by
      rcases c with c | c
      · rw [c]; simp
      · subst c
        have : its = [] := List.eq_nil_of_length_eq_zero hle
        rw [this]; rfl
    exact wpAny_binaryOp_repeat_ref (T := "tuple") (U := "int") (by decide) ⟨_, ho, rfl⟩ (fun s' => typeIs_int s' k t) noFill_tuple_mul F.fills_int_mul F.slot_int_rmul repeat_tuple F.slot_int_index.lookup
      (call_meets F.slot_int_rmul (typeIs_int s k t) F.entry_int_rmul (F.args_int_rmul_2 _ _) (int_rmul_tuple k t l its.toArray n dd sl)
        ⟨ho, rfl, ⟨_, ho, rfl⟩, call_meets F.slot_tuple_mul ⟨_, ho, rfl⟩ F.entry_tuple_mul (F.args_tuple_mul_2 _ _) (tuple_mulW1 l its.toArray n dd sl k t c0 c1) ⟨ho, ⟨.ref l, H, I, rfl, q0 c⟩⟩⟩)
  · by_cases c2 : 2 ≤ k
    · exact op_repT pins s σ H _ _ v u Q I rx ry ⟨l, k, xs, rfl, rfl, hT, fun z => c (.inr z), c2, h2, hz, q⟩
    · cases rx
      obtain ⟨t, rfl⟩ := ry
      obtain ⟨its, r, ⟨⟨cls, dd, data, sl⟩, ho, hc, n, hd⟩, hs⟩ := I.tuple hT
      simp only at hc hd
      subst hc hd
      have hle : its.length = xs.length := r.length.symm
      have hn : its ≠ [] := fun e => c (.inr (by
        rw [e] at hle
        exact List.eq_nil_of_length_eq_zero hle.symm))
      have hi : its.toArray.isEmpty = false := by
        cases its with
        | nil => exact absurd rfl hn
        | cons a b => rfl
      have c0 : (decide (k < -(2 ^ 63)) || decide (k ≥ 2 ^ 63)) = false := by
        rw [decide_eq_false (by omega), decide_eq_false (by omega)] <;> rfl
      have c1 : (its.toArray.isEmpty || k == 1) = false := by
        rw [hi, Bool.false_or]
        exact beq_eq_false_iff_ne.mpr (by omega)
      have c3 : (decide (k ≤ 0) || its.toArray.isEmpty) = true := by
        rw [decide_eq_true (show k ≤ 0 by omega)]; rfl
      have e : (List.replicate k.toNat xs).flatten = [] := by
        rw [show k.toNat = 0 by omega]; rfl
      refine wpAny_binaryOp_repeat_ref (T := "tuple") (U := "int") (by decide) ⟨_, ho, rfl⟩ (fun s' => typeIs_int s' k t) noFill_tuple_mul F.fills_int_mul F.slot_int_rmul repeat_tuple F.slot_int_index.lookup
        (call_meets F.slot_int_rmul (typeIs_int s k t) F.entry_int_rmul (F.args_int_rmul_2 _ _) (int_rmul_tuple k t l its.toArray n dd sl)
          ⟨ho, rfl, ⟨_, ho, rfl⟩, call_meets F.slot_tuple_mul ⟨_, ho, rfl⟩ F.entry_tuple_mul (F.args_tuple_mul_2 _ _) (tuple_mulW0 l its.toArray n dd sl k t c0 c1 c3) ⟨ho, ?_⟩⟩)
      refine ⟨.ref s.heap.objs.size, _, I.laid (t' := s.toks) (o := .tup (List.replicate k.toNat xs).flatten) (fun b ob q => Heap.get?_push_of_some _ q) (Nat.le_refl _) ?_, rfl, q _ (I.hok.fresh (Nat.le_refl _))⟩
      rw [e]
      exact ⟨Nat.zero_le _, [], .nil, IsTup.new _ _⟩
end
end FLR
namespace FL
open PySem PySem.Spec PyProof.Rows L2
section
variable {X : Cx} {L : Lw} {W : WX} {pos : Pos} {a c : Expr} {ta tb : TE} {wa wb : We}
def wRepA (wa wb : We) : We := fun s Q R => wa s (fun x => wb s (fun y => match x, y with | .tuple ds, .int n => (-1000 ≤ n ∧ n ≤ 1000 ∧ ds.length ≤ 1000) ∧ Q (.tuple (List.replicate n.toNat ds).flatten) | _, _ => False) R) R
theorem fe_repA (ha : FE X L W a ta wa) (hb : FE X L W c tb wb) : FE X L W (.BinOp a .Mult c pos) (tOp (FLR.rRepA X.K) ta tb) (wRepA wa wb) := by
  refine ⟨pe_op FLR.op_repA ha.pe hb.pe, fun b F s σ H Q R k I h hx kk => ?_⟩
  refine ha.snd b F s σ H _ R _ I h hx fun F1 d v H1 I1 m1 k1 r1 h1 => ?_
  refine hb.snd b F1 s σ H1 _ R _ I1 h1 (hx.mono m1) fun F2 d2 v2 H2 I2 m2 k2 r2 h2 => ?_
  split at h2
  · rename_i ds n
    cases r2
    cases r1 with
    | tup q1 q2 =>
      obtain ⟨⟨n1, n2, n3⟩, q⟩ := h2
      have r3 := dps_mono m2 q2
      refine ⟨_, _, _, rfl, rfl, same_sqT I2.sub (same_sqT m2 q1), n1, n2, by rw [dps_len r3]; exact n3, fun z => ?_, fun z hz => ?_⟩
      · refine kk F2 _ _ H2 I2 (m1.trans m2) (k1.trans k2) (.tup (same_sqT m2 q1) r3) ?_
        have e : (List.replicate n.toNat ds).flatten = ds := by
          rcases z with z | z
          · rw [z]; simp
          · have := dps_len r3
            rw [z] at this
            have : ds = [] := List.eq_nil_of_length_eq_zero this.symm
            rw [this]; simp
        rw [e] at q
        exact q
      · exact kk _ _ _ _ (I2.new1 hz (fun ps y => by cases y)) ((m1.trans m2).trans (same_upd (I2.f_none hz))) ((k1.trans k2).trans (Kp.of (same_upd hz))) (.tup (.inl (.inl upd_same)) (dps_mono (same_upd (I2.f_none hz)) (dps_rep r3 _))) q
  · exact h2.elim
end
end FL

/-! FL30: enumerate of a list or of a tuple. -/
namespace FLR
open PySem PySem.Spec PyProof.Rows L2
open AutoSeq1 (wpAny_loadPart')
theorem meets_enumerate_newT (l : Addr) (items : Array Value) (n : Nat) (dct : Option Addr) (sl : Array (Option Value)) :
    Meets (Builtin.«enumerate.__new__» ⟨[.type "enumerate", .ref l], []⟩) (fun _ R s => s.heap.get? l = some { cls := .type "tuple", dict := dct, data := .seq items n, slots := sl } ∧
      R (.ok (.ret (.ref (s.heap.push { cls := .type "tuple_iterator", data := .fields #[.ref l, .int 0 0] }).objs.size)))
        { s with heap := (s.heap.push { cls := .type "tuple_iterator", data := .fields #[.ref l, .int 0 0] }).push { cls := .type "enumerate", data := .fields #[.none, .bool false, .ref s.heap.objs.size, rawInt 0, .none, .none] } }) :=
  .of_wp fun prog w A R s h => by
    obtain ⟨hp, g, d, tk, os⟩ := s; obtain ⟨hl, h⟩ := h
    have hsub := sub_enumerate
    have hL : Heap.IsTuple (Shared.heap ⟨hp, g, d, tk, os⟩) l items := ⟨_, hl, rfl, n, rfl⟩
    wp_walk using wpAny_loadPart' hl
    refine wpAny_stack_any fun st => wpAny_pure ?_
    split
    · rename_i c _ _ _ _ _
      cases (c == Value.type "enumerate")
      · wp_walk using wpAny_loadPart' hl, wpAny_pyIter_tuple hL
        exact ⟨_, rfl, h⟩
      · wp_walk using wpAny_loadPart' hl, wpAny_pyIter_tuple hL
        exact ⟨_, rfl, h⟩
    · wp_walk using wpAny_loadPart' hl, wpAny_pyIter_tuple hL
      exact ⟨_, rfl, h⟩
section
variable {prog : Program} {w : World} {A : Around} {E : Value → Shared → Prop} {s : Shared}
theorem call_enumerate_tuple {l : Addr} {items : Array Value} {Q : Value → Shared → Prop} (hL : s.heap.IsTuple l items)
    (h : ∀ h', IsEnum h' (s.heap.objs.size + 1) s.heap.objs.size 0 .none → h'.IsTupleIter s.heap.objs.size l 0 → h'.objs.size = s.heap.objs.size + 2 →
      (∀ b o, s.heap.get? b = some o → h'.get? b = some o) → Q (.ref (s.heap.objs.size + 1)) { s with heap := h' }) :
    wpAny (model prog w) A (call (.type "enumerate") [.ref l]) Q E s := by
  obtain ⟨⟨c, dct, dt, sl⟩, hl, hc, n, hd⟩ := hL
  replace hc : c = .type "tuple" := hc
  replace hd : dt = .seq items n := hd
  subst hc hd
  refine callType_new F.called_enumerate (by decide) (F.typeCall_enumerate_1 _) (F.newCall_enumerate_1 _) (fun obj => F.args_object_init_2 obj _) F.entry_enumerate_new
    (meets_enumerate_newT l items n dct sl) ⟨hl, ?_⟩
  have hz : (s.heap.push { cls := .type "tuple_iterator", data := .fields #[.ref l, .int 0 0] }).objs.size = s.heap.objs.size + 1 := Heap.size_push ..
  show _ ∧ _
  rw [hz]
  have he : IsEnum ((s.heap.push { cls := .type "tuple_iterator", data := .fields #[.ref l, .int 0 0] }).push
      { cls := .type "enumerate", data := .fields #[.none, .bool false, .ref s.heap.objs.size, rawInt 0, .none, .none] }) (s.heap.objs.size + 1) s.heap.objs.size 0 .none := by
    have := Heap.get?_push_size (s.heap.push { cls := .type "tuple_iterator", data := .fields #[.ref l, .int 0 0] })
      (o := { cls := .type "enumerate", data := .fields #[.none, .bool false, .ref s.heap.objs.size, rawInt 0, .none, .none] }) rfl
    rw [hz] at this; exact this
  refine ⟨⟨_, he, rfl⟩, h _ he ⟨_, Heap.get?_push_of_some _ (Heap.get?_push_size _ rfl), rfl, rfl⟩ (by rw [Heap.size_push, hz]) fun b o x => Heap.get?_push_of_some _ (Heap.get?_push_of_some _ x)⟩
theorem pyNext_enumT_end {e it l : Addr} {i : Nat} {items : Array Value} {old : Value} {Q : Option Value → Shared → Prop} (hh : A.handled = none)
    (he : IsEnum s.heap e it i old) (hit : s.heap.IsTupleIter it l i) (hl : s.heap.IsTuple l items) (hx : items[i]? = none)
    (hQ : ∀ h', Heap.ExtBut it s.heap h' → Q none { s with heap := h' }) : wpAny (model prog w) A (pyNext (.ref e)) Q E s := by
  have hT : s.TypeIs (.ref e) "enumerate" := ⟨_, he, rfl⟩
  unfold pyNext
  refine wpAny_bind (wpAny_attempt (wpAny_callSpecial?_slot (name := Str.ofString "__next__") hT F.slot_enumerate_next
    (wpAny_call_entry F.slot_enumerate_next hT F.entry_enumerate_next ?_ (F.args_enumerate_next_1 _))))
  show wpAny _ _ (field (.ref e) 2 >>= _) _ _ _
  refine wpAny_bind (wpAny_field he rfl (x := .ref it) rfl ?_)
  refine wpAny_bind (wpAny_nextOf_tuple_end hh hit hl hx fun h' x he' hx' => ?_)
  obtain ⟨o, ho, hc⟩ := hx'
  refine wpAny_bind (wpAny_isInstance (T := "StopIteration") (b := true) ⟨o, ho, hc⟩ isSubtype_stop ?_)
  exact wpAny_pure (hQ _ he')
end
/-- the tuple at a, each item in a new pair -/
def IteT (K : PySem.W.Frag) (a : Addr) : It :=
  ⟨fun i H => ∃ (xs : List V) (x : V), SqT K H a xs ∧ xs[i]? = some x, fun i H v H' => ∃ T x, v = .ref T ∧ H T = none ∧ H' = upd H T (.tup [.int (i : Nat), x]) ∧ ∀ xs, SqT K H a xs → xs[i]? = some x, fun i H => ∃ xs : List V, SqT K H a xs ∧ xs.length ≤ i⟩
theorem turn_enumT {P : Program} {w : World} {K : PySem.W.Frag} {elts : List Expr} {kk : Nat} {tpos : Pos} (a e it : Addr) :
    Turn P w K (.Tuple elts kk tpos) (IteT K a) [e, it] e (fun i h => (∃ old, IsEnum h e it ((i : Nat) : Int) old) ∧ h.IsTupleIter it a i ∧ e ≠ it ∧ a ≠ it ∧ e ≠ a) where
  mem := by simp
  obj := fun i h st b hb => by
    obtain ⟨⟨old, he⟩, ⟨o, ho, hc, hd⟩, _⟩ := st
    have e' : b = e ∨ b = it := by simpa using hb
    rcases e' with z | z
    · rw [z]; exact ⟨_, he, fun v q => nomatch q⟩
    · rw [z]; exact ⟨o, ho, fun v q => by rw [hd] at q; cases q⟩
  keep := fun i h h' st k => let ⟨⟨old, he⟩, hi, hne⟩ := st; ⟨⟨old, k e (by simp) _ he⟩, hi.at fun o q => k it (by simp) o q, hne⟩
  item := by
    intro X hP hw hK hc i pins s σ H E I hf st hg
    subst hP hw hK
    obtain ⟨⟨old, he⟩, hit, hne, hai, hea⟩ := st
    obtain ⟨xs, x, hq, hx⟩ := hg
    obtain ⟨its, rv, p, hz⟩ := I.tuple hq
    obtain ⟨u, hu, ru⟩ := rv.get hx
    have hel : e < s.heap.objs.size := Heap.lt_size he
    have hil : it < s.heap.objs.size := by obtain ⟨_, q, _⟩ := hit; exact Heap.lt_size q
    have hlt : i < its.toArray.size := by
      have := (List.getElem?_eq_some_iff.mp hu).1
      simpa using this
    have D := PySem.Draws.tuple (prog := X.prog) (w := X.w) (A := X.A.in1) (I.ok.hd hc) it a hai its.toArray
    refine wpAny_pyNext_enum_itemD D he ⟨hit, p⟩ hlt hne (by simp [hne, hea]) fun v h' tk hPv ho hst' hT hsz hk => ?_
    have hvu : v = u := by
      have hPv' : its[i]? = some v := by simpa using hPv
      rw [hu] at hPv'
      exact (Option.some.inj hPv').symm
    subst hvu
    refine ⟨_, rfl, wpAny_letOwnedTupleGo_enum (s := { s with heap := h', toks := tk + 1 }) ho fun h'' he' sb => ?_⟩
    have hT2 : h''.get? s.heap.objs.size = some { cls := .type "tuple", data := .seq #[.int i tk, v] } := (sb.2 _ (Nat.ne_of_gt hel)).trans hT
    have new : ObjOk X.prog X.w (upd H s.heap.objs.size (.tup [.int (i : Nat), x])) h'' s.heap.objs.size (.tup [.int (i : Nat), x]) :=
      ⟨by show 2 ≤ sizeLine; decide, [.int i tk, v], .cons ⟨_, rfl⟩ (.cons ru .nil), ⟨_, hT2, rfl, _, rfl⟩⟩
    have I1 : Inv X pins σ (upd H s.heap.objs.size (.tup [.int (i : Nat), x])) { s with heap := h'', toks := tk + 1 } :=
      I.turnedNew (ch := [e, it]) (fun b ob hb q => (sb.2 b (fun z => hb (by simp [z]))).trans (hk b ob (fun z => hb (by simp [z])) (fun z => hb (by simp [z])) q)) hf (Nat.le_refl _) new
    refine ⟨.ref s.heap.objs.size, _, I1, rfl, ⟨_, x, rfl, I.hok.fresh (Nat.le_refl _), rfl, fun ys hy => by rw [I.tuple_inj hy hq]; exact hx⟩, ⟨⟨v, ?_⟩, hst'.1.at fun o q => (sb.2 it (Ne.symm hne)).trans q, hne, hai, hea⟩, fun b hb => ?_⟩
    · have e1 : ((i + 1 : Nat) : Int) = (i : Int) + 1 := by omega
      rw [e1]; exact he'
    · have hb' : b < s.heap.objs.size := by
        have e' : b = e ∨ b = it := by simpa using hb
        rcases e' with z | z
        · rw [z]; exact hel
        · rw [z]; exact hil
      rw [upd_ne (Nat.ne_of_lt hb')]
      exact (hf b hb).1
  done := by
    intro X hP hw hK hc i pins s σ H E I hf st hg
    subst hP hw hK
    obtain ⟨⟨old, he⟩, hit, hne, hai, hea⟩ := st
    obtain ⟨xs, hq, hx⟩ := hg
    obtain ⟨its, rv, p, hz⟩ := I.tuple hq
    obtain ⟨f0, f1, f2, f3, f4, f5⟩ := hf it (by simp)
    have hl := rv.length
    exact pyNext_enumT_end (I.ok.hd hc) he hit p (by simp; omega) fun h' eb => ⟨rfl, I.turned (t' := s.toks) (fun b o hb q => eb b o hb q) f0 f1 f3 f4 f5⟩
  self := fun A i s Q E st h => let ⟨⟨_, he⟩, _⟩ := st; wpAny_pyIter_enum he h
def iEnumA (K : PySem.W.Frag) (ta : TA) : TI := fun σ H R => ta σ H fun vs H1 => ∃ a xs, vs = [.ref a] ∧ ((SqL K H1 a xs ∧ R (Ite K a) H1) ∨ (SqT K H1 a xs ∧ R (IteT K a) H1))
theorem pi_enumA {X : Cx} {e : Expr} {ta : TA} {p pos tpos : Pos} {elts : List Expr} {kk : Nat} (hg : Gl X "enumerate") (hm : X.mg "enumerate" = none) (ha : PA X [e] ta) (hs : starEach [e] X.env = [(false, eval e X.env)] := by rfl) :
    PI X (.Tuple elts kk tpos) (.Call (.Name "enumerate" p) [e] [] pos) (iEnumA X.K ta) := by
  refine ⟨fun pins s σ H R I h => ?_⟩
  refine Call_ (ld_blt I hg hm boot_enumerate (PyProof.Rows.callWith_type1 (thn (ha.run pos pins s σ H _ I h) fun us s1 ⟨vs, H1, I1, r1, q1⟩ => ?_) hs rfl))
  obtain ⟨a, xs, ex, q1⟩ := q1
  subst ex
  cases r1 with
  | cons r rr =>
    cases rr
    cases r
    have fr : ∀ b, b ∈ [s1.heap.objs.size + 1, s1.heap.objs.size] → FpOk X pins H1 b := fun b hb => by
      have e' : b = s1.heap.objs.size + 1 ∨ b = s1.heap.objs.size := by simpa using hb
      have hle : s1.heap.objs.size ≤ b := by
        rcases e' with z | z
        · rw [z]; exact Nat.le_add_right _ _
        · rw [z]; exact Nat.le_refl _
      exact I1.fpOk hle (I1.hok.fresh hle)
    rcases q1 with ⟨hq, q⟩ | ⟨hq, q⟩
    · obtain ⟨its, rv, p', hz⟩ := I1.list hq
      refine call_enumerate_list p'.isList fun h' he hit hsz hk => wpAny_pyIter_enum he ?_
      have I2 : Inv X pins σ H1 { s1 with heap := h' } := I1.kept (t' := s1.toks) hk
      exact ⟨s1.heap.objs.size + 1, [s1.heap.objs.size + 1, s1.heap.objs.size], _, _, H1, rfl, I2, turn_enum a (s1.heap.objs.size + 1) s1.heap.objs.size, ⟨⟨.none, he⟩, hit, Nat.succ_ne_self _⟩, fr, q⟩
    · obtain ⟨its, rv, p', hz⟩ := I1.tuple hq
      have hal : a < s1.heap.objs.size := by obtain ⟨o, ho, _⟩ := id p'; exact Heap.lt_size ho
      refine call_enumerate_tuple (show s1.heap.IsTuple a its.toArray from p') fun h' he hit hsz hk => wpAny_pyIter_enum he ?_
      have I2 : Inv X pins σ H1 { s1 with heap := h' } := I1.kept (t' := s1.toks) hk
      exact ⟨s1.heap.objs.size + 1, [s1.heap.objs.size + 1, s1.heap.objs.size], _, _, H1, rfl, I2, turn_enumT a (s1.heap.objs.size + 1) s1.heap.objs.size, ⟨⟨.none, he⟩, hit, Nat.succ_ne_self _, Nat.ne_of_lt hal, (Nat.ne_of_lt (Nat.lt_succ_of_lt hal)).symm⟩, fr, q⟩
theorem walk_enumT {K : PySem.W.Frag} {a : Addr} {xs : List V} : Walk (IteT K a) xs.length (fun H => SqT K H a xs) (YPair (fun i => some (.int (i : Nat))) (fun i => xs[i]?)) := by
  refine ⟨fun i _ hi q => ⟨xs, xs[i], q, by simp [hi]⟩, fun _ q => ⟨xs, q, Nat.le_refl _⟩, fun i H v H' _ q y => ?_⟩
  obtain ⟨T, x, h1, h2, h3, h4⟩ := y
  exact ⟨T, .int (i : Nat), x, h1, h2, h3, rfl, h4 xs q⟩
end FLR
namespace FL
open PySem PySem.Spec PyProof.Rows L2
section
variable {X : Cx} {L : Lw} {W : WX} {pos p : Pos} {e : Expr} {t : TA} {wl : Wl}
def enumD (ds : List D) : List D := (List.range ds.length).zipWith (fun i d => prT (.int (i : Nat)) d) ds
def wEnum (wl : Wl) : Wl := fun s Q R => wl s (fun es => match es with
  | [.list ds] => Q (enumD ds)
  | [.tuple ds] => Q (enumD ds)
  | _ => False) R
theorem enum_len (ds : List D) : (enumD ds).length = ds.length := by unfold enumD; rw [List.length_zipWith, List.length_range]; omega
theorem enum_at {xs : List V} {ds : List D} {K : PySem.W.Frag} {F : Hp} {i : Nat} {x y : V} (h1 : DtAll K F xs ds) (e1 : some (V.int (i : Nat)) = some x) (e2 : xs[i]? = some y) : ∃ d e, (enumD ds)[i]? = some (prT d e) ∧ Dt K F x d ∧ Dt K F y e := by
  cases e1
  obtain ⟨d, hd, r1⟩ := dps_getv h1 e2
  have hi := (List.getElem?_eq_some_iff.mp hd).1
  exact ⟨.int (i : Nat), d, by unfold enumD; rw [List.getElem?_zipWith, List.getElem?_range hi, hd], .int _, r1⟩
theorem fi_enum {elts : List Expr} {kk : Nat} {tpos : Pos} (hm : X.mg "enumerate" = none) (ha : FLs X L W [e] t wl) (hg : Gl X "enumerate" := by rfl) (hs : starEach [e] X.env = [(false, eval e X.env)] := by rfl) :
    FI X L W (.Tuple elts kk tpos) (.Call (.Name "enumerate" p) [e] [] pos) (FLR.iEnumA X.K t) (wEnum wl) := by
  refine ⟨FLR.pi_enumA hg hm ha.pe hs, fun b F s σ H Q R k I h hx kk => ?_⟩
  refine ha.snd b F s σ H _ R _ I h hx fun F1 ds vs H1 I1 m1 k1 r1 q => ?_
  split at q
  · cases r1 with
    | cons h1 h2 =>
      cases h2
      cases h1 with
      | lst q1 q2 =>
        exact ⟨_, _, rfl, .inl ⟨I1.sub.seq q1, kk F1 _ _ H1 I1 m1 k1 (wkd_pair walk_enum (by rw [enum_len, dps_len q2]) (fun _ F2 _ _ _ I2 m2 => I2.sub.seq (m2.seq q1))
          fun F2 m2 i x y e1 e2 => enum_at (dps_mono m2 q2) e1 e2) q⟩⟩
  · cases r1 with
    | cons h1 h2 =>
      cases h2
      cases h1 with
      | tup q1 q2 =>
        exact ⟨_, _, rfl, .inr ⟨same_sqT I1.sub q1, kk F1 _ _ H1 I1 m1 k1 (wkd_pair FLR.walk_enumT (by rw [enum_len, dps_len q2]) (fun _ F2 _ _ _ I2 m2 => same_sqT I2.sub (same_sqT m2 q1))
          fun F2 m2 i x y e1 e2 => enum_at (dps_mono m2 q2) e1 e2) q⟩⟩
  · exact q.elim
/-! ### sorted, ints -/
def wSortI (wb : We) : Wl := fun s Q R => wb s (fun d => match d with
  | .list ds => ∃ ns : List Int, ds = ns.map .int ∧ ns.length < 64 ∧ ∀ ms : List Int, ms.Perm ns → ms.Pairwise (· ≤ ·) → Q (ms.map .int)
  | _ => False) R
theorem dts_intsV {K : PySem.W.Frag} {F : Hp} : ∀ ns : List Int, DtAll K F (ns.map V.int) (ns.map PyData.int)
  | [] => .nil
  | n :: ns => .cons (.int n) (dts_intsV ns)
theorem fn_sortI {te : TE} {we : We} (hm : X.mg "sorted" = none) (he : FB X L W e te we) (hv : bootBuiltins "sorted" = some (.builtin "sorted") := by decide +kernel) (hg : Gl X "sorted" := by rfl) (hs : starEach [e] X.env = (false, eval e X.env) :: starEach [] X.env := by rfl) :
    FN X L W (.Call (.Name "sorted" p) [e] [] pos) (tCB (rSorted X.K) (tCons te tNil)) (wSortI we) := by
  refine ⟨pe_callB cr_sorted hg hm hv (pa_cons he.pe pa_nil hs) (by decide) (by decide) hs rfl, fun b F s σ H Q R k I h hx kk => ?_⟩
  refine he.snd b F s σ H _ R _ I h hx fun F1 d v H1 I1 m1 k1 r1 q => ?_
  split at q
  · obtain ⟨ns, rfl, h64, q⟩ := q
    have lay : ∀ (ms : List Int) (z : Addr), ms.Perm ns → ms.Pairwise (· ≤ ·) → H1 z = none → k (.ref z) (upd H1 z (.lst (ms.map V.int))) := fun ms z h1 h2 hz =>
      kk F1 (ms.map .int) z (ms.map V.int) _ (I1.lay hz) m1 (k1.trans (Kp.of (same_upd hz))) (fresh_at I1 hz) upd_same (dts_intsV ms) (q ms h1 h2)
    rcases r1 with r1 | ⟨a, vs, ds', rfl, e2, e3, e4, e5⟩
    · cases r1 with
      | lst h1 h2 =>
        have e := dps_ints h2
        subst e
        exact ⟨_, ns, rfl, I1.sub.seq h1, h64, lay⟩
    · cases e2
      have e := dps_ints e5
      subst e
      exact ⟨_, ns, rfl, .inl (.inl e4), h64, lay⟩
  · exact q.elim
end
end FL

/-! FL31: several stores at once, any of them new lists of the def's own. -/
namespace FL
open PySem PySem.Spec PyProof.Rows L2
section
variable {K : PySem.W.Frag} {L : Lw} {b : Beg} {F F' : Hp} {s : Sl} {σ : L2.St} {H H' : Hp}
abbrev Wm := Sl → (List Cel → Prop) → (Value → Prop) → Prop
def MOk (K : PySem.W.Frag) (b : Beg) (F H : Hp) (s : Sl) (σ : L2.St) : List V → List Cel → Prop
  | [], [] => True
  | v :: vs, .fz d :: cs => Dt K F v d ∧ MOk K b F H s σ vs cs
  | v :: vs, .ow ds :: cs => (∃ p us, v = .ref p ∧ Fresh b F s σ p ∧ H p = some (.lst us) ∧ DtAll K F us ds ∧ ∀ j : Nat, isOw cs[j]? → vs[j]? ≠ some (.ref p)) ∧ MOk K b F H s σ vs cs
  | _, _ => False
theorem MOk.len : ∀ {vs : List V} {cs : List Cel}, MOk K b F H s σ vs cs → vs.length = cs.length
  | [], [], _ => rfl
  | _ :: _, .fz _ :: _, h => by simp [MOk.len h.2]
  | _ :: _, .ow _ :: _, h => by simp [MOk.len h.2]
  | [], _ :: _, h => by simp [MOk] at h
  | _ :: _, [], h => by simp [MOk] at h
  | _ :: _, .no :: _, h => by simp [MOk] at h
  | _ :: _, .dr :: _, h => by simp [MOk] at h
  | _ :: _, .lk _ :: _, h => by simp [MOk] at h
  | _ :: _, .px _ :: _, h => by simp [MOk] at h
theorem hn_putO {i : Nat} {p p' : Addr} {ds : List D} (ne : p' ≠ p) (h : ∀ (j : Nat), isOw s[j]? → σ[j]? ≠ some (some (.ref p))) : ∀ (j : Nat), isOw (s.set i (.ow ds))[j]? → (σ.set i (some (.ref p')))[j]? ≠ some (some (.ref p)) := by
  intro j z
  by_cases q : j = i
  · subst q
    rw [List.getElem?_set]
    split
    · split
      · intro y; cases y; exact ne rfl
      · intro y; cases y
    · rename_i y; exact absurd rfl y
  · rw [List.getElem?_set_ne (Ne.symm q)] at z ⊢
    exact h j z
theorem MOk.putF {i : Nat} {d : D} {v : V} : ∀ {vs : List V} {cs : List Cel}, MOk K b F H s σ vs cs → MOk K b F H (s.set i (.fz d)) (σ.set i (some v)) vs cs
  | [], [], _ => trivial
  | _ :: _, .fz _ :: _, h => ⟨h.1, MOk.putF h.2⟩
  | _ :: _, .ow _ :: _, h => by
    obtain ⟨⟨p, us, e, fr, h1, h2, h3⟩, h4⟩ := h
    exact ⟨⟨p, us, e, ⟨fr.h0, fr.hd, fr.hf, hn_put fr.hn⟩, h1, h2, h3⟩, MOk.putF h4⟩
  | [], _ :: _, h => by simp [MOk] at h
  | _ :: _, [], h => by simp [MOk] at h
  | _ :: _, .no :: _, h => by simp [MOk] at h
  | _ :: _, .dr :: _, h => by simp [MOk] at h
  | _ :: _, .lk _ :: _, h => by simp [MOk] at h
  | _ :: _, .px _ :: _, h => by simp [MOk] at h
theorem MOk.putN {i : Nat} {q : Addr} {es : List D} : ∀ {vs : List V} {cs : List Cel}, (∀ j : Nat, isOw cs[j]? → vs[j]? ≠ some (.ref q)) → MOk K b F H s σ vs cs → MOk K b F H (s.set i (.ow es)) (σ.set i (some (.ref q))) vs cs
  | [], [], _, _ => trivial
  | _ :: _, .fz _ :: _, n, h => ⟨h.1, MOk.putN (fun j z => n (j + 1) z) h.2⟩
  | _ :: _, .ow _ :: _, n, h => by
    obtain ⟨⟨p, us, e, fr, h1, h2, h3⟩, h4⟩ := h
    have ne : q ≠ p := fun z => n 0 trivial (by rw [e, z]; rfl)
    exact ⟨⟨p, us, e, ⟨fr.h0, fr.hd, fr.hf, hn_putO ne fr.hn⟩, h1, h2, h3⟩, MOk.putN (fun j z => n (j + 1) z) h4⟩
  | [], _ :: _, _, h => by simp [MOk] at h
  | _ :: _, [], _, h => by simp [MOk] at h
  | _ :: _, .no :: _, _, h => by simp [MOk] at h
  | _ :: _, .dr :: _, _, h => by simp [MOk] at h
  | _ :: _, .lk _ :: _, _, h => by simp [MOk] at h
  | _ :: _, .px _ :: _, _, h => by simp [MOk] at h
def setAll : List Nat → List Cel → Sl → Sl
  | i :: is, c :: cs, s => setAll is cs (s.set i c)
  | _, _, s => s
def setAllV : List Nat → List V → L2.St → L2.St
  | i :: is, c :: cs, s => setAllV is cs (s.set i (some c))
  | _, _, s => s
theorem Rel.putAll : ∀ {is : List Nat} {vs : List V} {cs : List Cel} {s : Sl} {σ : L2.St}, Rel K L b F s σ H → MOk K b F H s σ vs cs → Rel K L b F (setAll is cs s) (setAllV is vs σ) H
  | [], _, _, _, _, I, _ => by unfold setAll setAllV; exact I
  | _ :: _, [], [], _, _, I, _ => I
  | i :: is, v :: vs, .fz d :: cs, s, σ, I, h => Rel.putAll (is := is) (I.put h.1) (MOk.putF h.2)
  | i :: is, v :: vs, .ow ds :: cs, s, σ, I, h => by
    obtain ⟨⟨p, us, e, fr, h1, h2, h3⟩, h4⟩ := h
    subst e
    exact Rel.putAll (is := is) (I.putO fr.h0 fr.hd fr.hf fr.hn h1 h2) (MOk.putN h3 h4)
  | _ :: _, [], _ :: _, _, _, _, h => by simp [MOk] at h
  | _ :: _, _ :: _, [], _, _, _, h => by simp [MOk] at h
  | _ :: _, _ :: _, .no :: _, _, _, _, h => by simp [MOk] at h
  | _ :: _, _ :: _, .dr :: _, _, _, _, h => by simp [MOk] at h
  | _ :: _, _ :: _, .lk _ :: _, _, _, _, h => by simp [MOk] at h
  | _ :: _, _ :: _, .px _ :: _, _, _, _, h => by simp [MOk] at h
theorem MOk.ow_at : ∀ {vs : List V} {cs : List Cel} {j : Nat} {ds : List D}, MOk K b F H s σ vs cs → cs[j]? = some (.ow ds) → ∃ p, vs[j]? = some (.ref p) ∧ Fresh b F s σ p ∧ ∃ us, H p = some (.lst us)
  | [], [], j, ds, _, e => by simp at e
  | v :: vs, .fz d :: cs, 0, ds, h, e => by simp at e
  | v :: vs, .fz d :: cs, j + 1, ds, h, e => MOk.ow_at (cs := cs) (j := j) h.2 (by simpa using e)
  | v :: vs, .ow d :: cs, 0, ds, h, e => by
    obtain ⟨⟨p, us, e, fr, h1, h2, h3⟩, h4⟩ := h
    exact ⟨p, by rw [e]; rfl, fr, us, h1⟩
  | v :: vs, .ow d :: cs, j + 1, ds, h, e => MOk.ow_at (cs := cs) (j := j) h.2 (by simpa using e)
  | [], _ :: _, _, _, h, _ => by simp [MOk] at h
  | _ :: _, [], _, _, h, _ => by simp [MOk] at h
  | _ :: _, .no :: _, _, _, h, _ => by simp [MOk] at h
  | _ :: _, .dr :: _, _, _, h, _ => by simp [MOk] at h
  | _ :: _, .lk _ :: _, _, _, h, _ => by simp [MOk] at h
  | _ :: _, .px _ :: _, _, _, h, _ => by simp [MOk] at h
/-- from a ground of its own to the def's -/
theorem MOk.out (hH : ∀ p, H p = none → b.H0 p = none) (hn : ∀ p, H p = none → ∀ (j : Nat), isOw s[j]? → σ[j]? ≠ some (some (.ref p))) : ∀ {vs : List V} {cs : List Cel}, MOk K ⟨H, F, b.dr⟩ F' H' (lkS s) σ vs cs → MOk K b F' H' s σ vs cs
  | [], [], _ => trivial
  | _ :: _, .fz _ :: _, h => ⟨h.1, MOk.out hH hn h.2⟩
  | _ :: _, .ow _ :: _, h => by
    obtain ⟨⟨p, us, e, fr, h1, h2, h3⟩, h4⟩ := h
    exact ⟨⟨p, us, e, ⟨hH p fr.h0, fr.hd, fr.hf, hn p fr.h0⟩, h1, h2, h3⟩, MOk.out hH hn h4⟩
  | [], _ :: _, h => by simp [MOk] at h
  | _ :: _, [], h => by simp [MOk] at h
  | _ :: _, .no :: _, h => by simp [MOk] at h
  | _ :: _, .dr :: _, h => by simp [MOk] at h
  | _ :: _, .lk _ :: _, h => by simp [MOk] at h
  | _ :: _, .px _ :: _, h => by simp [MOk] at h
end
section
variable {X : Cx} {L : Lw} {W : WX} {pos p : Pos} {a c e : Expr} {ta tb te : TE} {wa wb we : We} {wl : Wl} {es : List Expr} {t : TA} {wm : Wm}
structure FMs (X : Cx) (L : Lw) (W : WX) (es : List Expr) (t : TA) (w : Wm) : Prop where
  pe : PA X es t
  snd : ∀ (b : Beg) (F : Hp) (s : Sl) (σ : L2.St) (H : Hp) (Q : List Cel → Prop) (R : Value → Prop) (k : List V → Hp → Prop), Rel X.K L b F s σ H → w s Q R → Exw X.K L W b F s σ R →
    (∀ F' cs vs H', Rel X.K L b F' s σ H' → Same F F' → Kp b H H' → MOk X.K b F' H' s σ vs cs → Q cs → k vs H') → t σ H k
def wmNil : Wm := fun _ Q _ => Q []
def wmVal (wa : We) (wr : Wm) : Wm := fun s Q R => wa s (fun d => wr s (fun cs => Q (.fz d :: cs)) R) R
def wmNew (wl : Wl) (wr : Wm) : Wm := fun s Q R => wl s (fun ds => wr (lkS s) (fun cs => Q (.ow ds :: cs)) R) R
theorem fm_nil : FMs X L W [] tNil wmNil := ⟨pa_nil, fun b F s σ H Q R k I h hx kk => kk F [] [] H I (Same.refl F) Kp.refl trivial h⟩
theorem fm_val (ha : FE X L W a ta wa) (hr : FMs X L W es t wm) (hs : starEach (a :: es) X.env = (false, eval a X.env) :: starEach es X.env := by rfl) : FMs X L W (a :: es) (tCons ta t) (wmVal wa wm) := by
  refine ⟨pa_cons ha.pe hr.pe hs, fun b F s σ H Q R k I h hx kk => ?_⟩
  refine ha.snd b F s σ H _ R _ I h hx fun F1 d1 v1 H1 I1 m1 k1 r1 h1 => ?_
  exact hr.snd b F1 s σ H1 _ R _ I1 h1 (hx.mono m1) fun F2 ds vs H2 I2 m2 k2 r2 h2 => kk F2 (.fz d1 :: ds) _ H2 I2 (m1.trans m2) (k1.trans k2) ⟨dp_mono m2 r1, r2⟩ h2
theorem fm_new (ha : FN X L W a ta wl) (hr : FMs X L W es t wm) (hs : starEach (a :: es) X.env = (false, eval a X.env) :: starEach es X.env := by rfl) : FMs X L W (a :: es) (tCons ta t) (wmNew wl wm) := by
  refine ⟨pa_cons ha.pe hr.pe hs, fun b F s σ H Q R k I h hx kk => ?_⟩
  refine ha.snd b F s σ H _ R _ I h hx fun F1 ds q us H1 I1 m1 k1 fr e1 r1 h1 => ?_
  refine hr.snd ⟨H1, F1, b.dr⟩ F1 (lkS s) σ H1 _ R _ I1.inner h1 (fun cls F' H' I' m' z => hx cls F' H' (I1.back I'.toGrd) (m1.trans m') z) fun F2 cs vs H2 I2 m2 k2 r2 h2 => ?_
  have I3 : Rel X.K L b F2 s σ H2 := I1.back I2.toGrd
  have hq : F2 q = none := by
    cases y : F2 q with
    | none => rfl
    | some o =>
      rcases I2.new q o y with y | y
      · have y' : F1 q = some o := y
        rw [fr.hf] at y'; cases y'
      · have y' : H1 q = none := y
        rw [e1] at y'; cases y'
  have ne : ∀ p, H1 p = none → p ≠ q := fun p y z => by rw [z, e1] at y; cases y
  have e2 : H2 q = some (.lst us) := k2 q _ e1 fr.hd fun ps y => by cases y
  refine kk F2 (.ow ds :: cs) (.ref q :: vs) H2 I3 (m1.trans m2) (k1.trans fun x o h1 h2 h3 => k2 x o h1 h2 h3) ⟨⟨q, us, rfl, ⟨fr.h0, fr.hd, hq, fr.hn⟩, e2, dps_mono m2 r1, fun j z y => ?_⟩, MOk.out (fun p y => I1.live p y) (fun p y j z => I1.ow_some y j z) r2⟩ h2
  cases w : cs[j]? with
  | none => rw [w] at z; exact z
  | some c =>
    rw [w] at z
    cases c with
    | ow fs =>
      obtain ⟨p', g1, g2, _⟩ := MOk.ow_at r2 w
      rw [y] at g1
      cases g1
      exact ne q g2.h0 rfl
    | _ => exact z
/-- names to be stored at once -/
structure NmsOk (X : Cx) (is : List Nat) (tgs : List Expr) (g : TGs) : Prop where
  pe : PGs X tgs g
  go : ∀ vs σ H k, vs.length = is.length → k (setAllV is vs σ) H → g vs σ H k
theorem nms_nil : NmsOk X [] [] gNil := ⟨pgs_nil, fun vs σ H k hl h => by
  obtain rfl : vs = [] := List.eq_nil_of_length_eq_zero hl
  exact ⟨rfl, h⟩⟩
theorem nms_cons {i : Nat} {is : List Nat} {x : Str} {px : Pos} {tgs : List Expr} {g : TGs} (hN : X.N.Nodup) (hr : NmsOk X is tgs g) (hi : X.N[i]? = some x := by rfl) (hx : Loc X.env.scope x := by first | exact Or.inl rfl | exact Or.inr rfl)
    (hf : X.fn x = true ∨ X.env.scope.names.lookup x = some .local := by first | exact .inl rfl | exact .inr rfl | assumption) (he : (assignEach (.Name x px :: tgs) X.env).map (·.2) = assign (.Name x px) X.env :: (assignEach tgs X.env).map (·.2) := by rfl) :
    NmsOk X (i :: is) (.Name x px :: tgs) (gCons (gName i) g) := by
  refine ⟨pgs_cons (pg_name hN hi hx hf) hr.pe he, fun vs σ H k hl h => ?_⟩
  cases vs with
  | nil => cases hl
  | cons v vs => exact ⟨v, vs, rfl, hr.go vs _ H k (Nat.succ.inj hl) h⟩
def wParM (is : List Nat) (wm : Wm) : Ws := fun s E => wm s (fun cs => cs.length = is.length ∧ E.nx (setAll is cs s)) E.ex
theorem fs_parM {is : List Nat} {tgs : List Expr} {g : TGs} {kt k2 n : Nat} {pt pt2 : Pos} (hc : X.calm = true) (ha : FMs X L W es t wm) (hg : NmsOk X is tgs g) (hs : swapsWithSole [.Tuple tgs kt pt] (.Tuple es k2 pt2) pos.line X.env = pure false := by rfl)
    (hw : swappedStores [.Tuple tgs kt pt] (.Tuple es k2 pt2) X.env = pure none := by rfl) (hl : is.length ≤ 100 := by decide) (hnl : is.length = n := by rfl) (hn : (assignEach tgs X.env).length = n := by rfl) (hst : (assignEach tgs X.env).findIdx? (·.1) = none := by rfl)
    (h1 : (assignEach [.Tuple tgs kt pt] X.env).map (·.2) = [assign (.Tuple tgs kt pt) X.env] := by rfl) :
    FS X L W (.Assign [.Tuple tgs kt pt] (.Tuple es k2 pt2) pos) (tAsg (tTup t) (gTup X.K n g)) (wParM is wm) := by
  refine ⟨ps_asg (pe_tup ha.pe) (pg_tup hc hg.pe hn hst) hs hw h1, fun b F s σ H E D' I h ok => ?_⟩
  refine ha.snd b F s σ H _ E.ex _ I h ok.exw fun F1 cs vs H1 I1 m1 k1 r1 q => ?_
  have lv := r1.len
  have lz : (100 : Nat) ≤ sizeLine := by decide
  refine ⟨by rw [lv, q.1]; exact Nat.le_trans hl lz, fun p hp => ⟨p, vs, rfl, .inl (.inl upd_same), by rw [lv, q.1, hnl], hg.go vs σ _ _ (by rw [lv, q.1]) ?_⟩⟩
  have r2 : ∀ {vs : List V} {cs : List Cel}, MOk X.K b F1 H1 s σ vs cs → MOk X.K b F1 (upd H1 p (.tup vs)) s σ vs cs → True := fun _ _ => trivial
  have lay : ∀ {us : List V} {vs : List V} {cs : List Cel}, MOk X.K b F1 H1 s σ vs cs → MOk X.K b F1 (upd H1 p (.tup us)) s σ vs cs := by
    intro us vs cs
    induction vs generalizing cs with
    | nil =>
      intro h
      cases cs with
      | nil => trivial
      | cons c cs => simp [MOk] at h
    | cons v vs ih =>
      intro h
      cases cs with
      | nil => simp [MOk] at h
      | cons c cs =>
        cases c with
        | fz d => exact ⟨h.1, ih h.2⟩
        | ow ds =>
          obtain ⟨⟨p', us', e, fr, h1, h2, h3⟩, h4⟩ := h
          exact ⟨⟨p', us', e, fr, by rw [upd_ne (fun z => by rw [z, hp] at h1; cases h1)]; exact h1, h2, h3⟩, ih h4⟩
        | _ => simp [MOk] at h
  exact ok.nx F1 _ _ _ ((I1.lay hp).putAll (lay r1)) m1 q.2
/-- .. of two, of three locals -/
theorem fs_parM2 {i j : Nat} {x y : Str} {px py pt pt2 : Pos} {kt k2 : Nat} (hc : X.calm = true) (hN : X.N.Nodup) (ha : FMs X L W [a, c] t wm) (hi : X.N[i]? = some x := by rfl) (hj : X.N[j]? = some y := by rfl) (hij : i ≠ j := by decide)
    (hx : X.env.scope.names.lookup x = some .local := by rfl) (hy : X.env.scope.names.lookup y = some .local := by rfl)
    (hw : swappedStores [.Tuple [.Name x px, .Name y py] kt pt] (.Tuple [a, c] k2 pt2) X.env = pure (some [x, y]) := by rfl)
    (hs : swapsWithSole [.Tuple [.Name x px, .Name y py] kt pt] (.Tuple [a, c] k2 pt2) pos.line X.env = pure false := by rfl) :
    FS X L W (.Assign [.Tuple [.Name x px, .Name y py] kt pt] (.Tuple [a, c] k2 pt2) pos) (tPar i j t) (wParM [i, j] wm) := by
  refine ⟨ps_par hc hN hi hj hij hx hy ha.pe hw hs, fun b F s σ H E D' I h ok => ?_⟩
  refine ha.snd b F s σ H _ E.ex _ I h ok.exw fun F1 cs vs H1 I1 m1 k1 r1 q => ?_
  have lv := r1.len
  rw [q.1] at lv
  match vs, lv with
  | [u, v], _ => exact ⟨u, v, rfl, ok.nx F1 _ _ H1 (I1.putAll (is := [i, j]) r1) m1 q.2⟩
theorem fs_parM3 {i j l : Nat} {x y z : Str} {px py pz pt pt2 : Pos} {kt k2 : Nat} (hc : X.calm = true) (hN : X.N.Nodup) (ha : FMs X L W [a, c, e] t wm) (hi : X.N[i]? = some x := by rfl) (hj : X.N[j]? = some y := by rfl) (hl : X.N[l]? = some z := by rfl) (hij : i ≠ j := by decide) (hil : i ≠ l := by decide) (hjl : j ≠ l := by decide)
    (hx : X.env.scope.names.lookup x = some .local := by rfl) (hy : X.env.scope.names.lookup y = some .local := by rfl) (hz : X.env.scope.names.lookup z = some .local := by rfl)
    (hw : swappedStores [.Tuple [.Name x px, .Name y py, .Name z pz] kt pt] (.Tuple [a, c, e] k2 pt2) X.env = pure (some [x, y, z]) := by rfl)
    (hs : swapsWithSole [.Tuple [.Name x px, .Name y py, .Name z pz] kt pt] (.Tuple [a, c, e] k2 pt2) pos.line X.env = pure false := by rfl) :
    FS X L W (.Assign [.Tuple [.Name x px, .Name y py, .Name z pz] kt pt] (.Tuple [a, c, e] k2 pt2) pos) (tPar3 i j l t) (wParM [i, j, l] wm) := by
  refine ⟨ps_par3 hc hN hi hj hl hij hil hjl hx hy hz ha.pe hw hs, fun b F s σ H E D' I h ok => ?_⟩
  refine ha.snd b F s σ H _ E.ex _ I h ok.exw fun F1 cs vs H1 I1 m1 k1 r1 q => ?_
  have lv := r1.len
  rw [q.1] at lv
  match vs, lv with
  | [u, v, w], _ => exact ⟨u, v, w, rfl, ok.nx F1 _ _ H1 (I1.putAll (is := [i, j, l]) r1) m1 q.2⟩
end
section
variable {c : Cel} {s : Sl} {E : En} {Q : List Cel → Prop} {R : Value → Prop} {is : List Nat} {wm wr : Wm} {wa : We} {wl : Wl}
theorem u_parM : wParM is wm (c :: s) E = wm (c :: s) (fun cs => cs.length = is.length ∧ E.nx (setAll is cs (c :: s))) E.ex := rfl
theorem u_mnil : wmNil (c :: s) Q R = Q [] := rfl
theorem u_mval : wmVal wa wr (c :: s) Q R = wa (c :: s) (fun d => wr (c :: s) (fun cs => Q (.fz d :: cs)) R) R := rfl
theorem u_mnew : wmNew wl wr (c :: s) Q R = wl (c :: s) (fun ds => wr (lkS (c :: s)) (fun cs => Q (.ow ds :: cs)) R) R := rfl
end
end FL

namespace Lw
open PySem PySem.Spec PyProof.Rows L2 FL
def topS (i : Nat) : Stmt := PySem.Challenge.pw_nightsgiven_k37_whole_horizons_of_hills.main.body.getD i (.Pass ⟨0, 0, 0, 0⟩)
local macro_rules | `(tactic| walk_at "wp") => `(tactic| try dsimp only [u_seq, u_next, u_drop, u_ret, u_retO, u_ifS, u_asg, u_setO, u_par, u_par3, wDead, wDeadE, wIdxC, dEqS, dNeS, wRaise, wTry, wAPx, wIsX, wCallT, wListI, sufS, wRevA, dRev, wZip, wAugi, wEnum, wSortI, u_parO, u_par3O, u_parM, wParM, wmNil, wmVal, wmNew, setAll, u_parOc, u_aug, u_for, u_app, u_fix, u_gname, l_map1, l_map0, b_nt, b_nf, c_t, c_f, wVar, wVarB, wC, wOp, dI, dI0, dAdd, wNeg, wCmpV, wCmpT, dEq, dNe, dO, isNoneD, dIsN, dNotN, wAndT, wOrT, wNotT, truOk, truD, wTruT, wNotV, wAndV, wOrV, wIf, wChain, wBoolV, wIx, wNil, wCons, wTup, wLst, wN, wANil, wACons, wADr, wCall, wCallN, wgNil, wgCons, wgTup, wgLst, wSeqI, seqD, wRng1, wRng2, wRng3, wCal, dAbs, dMax2, dMin2, dInt1, wCalB, dLen, isIntD, isBoolD, isStrD, isTupD, isLstD, wIsi, wLRev, wListA, dTupA, startS, wO0, wO1, dSl, wSl, wSlN, wRepN, wRepA, dIn, dGcd, dIntsL, dIntsA, wStar, wSeti, wUnDr, wSetDr, spDraw, dBest, wSetL, wLc, wAll, wAny, wYes, stpAll, stpAny, u_wipe0, u_wipe1, u_lk0, u_lk1, lkC, spTake, List.getElem?_cons_zero, List.getElem?_cons_succ, List.getElem?_nil, List.set_cons_zero, List.set_cons_succ, List.length_cons, List.length_nil, List.replicate_succ, List.replicate_zero, List.cons_append, List.nil_append, Nat.reduceAdd, Nat.reduceSub])
local macro_rules | `(tactic| walk_at "sm") => `(tactic| try simp only [c_t, c_f, ix0, ix1, ix2, ix3, ix4, cond_dec, cond_not, ok_ii, ok_bb, ok_ss, ok_nn, ok_ni, ok_in, ok_nb, ok_bn, ok_ns, ok_sn, ok_is, ok_si, ok_bs, ok_sb, ev_ii, ev_bb, ev_ss, ev_nn, ev_ni, ev_in, ev_nb, ev_bn, ev_ns, ev_sn, ev_is, ev_si, ev_bs, ev_sb, true_and, and_true, decide_eq_true_eq, decide_eq_false_iff_not, Bool.not_eq_true', Bool.not_eq_false', Bool.not_true, Bool.not_false, Bool.false_eq_true, Bool.true_eq_false, reduceCtorEq, decide_true, decide_false, false_implies, forall_const, true_implies, not_true_eq_false, not_false_eq_true])
abbrev s_is_number : Stmt := topS 1
theorem sc_is_number : FnScope ["value", "least", "most"] ["value", "least", "most"] (defScope s_is_number) := ⟨rfl, rfl, rfl, by decide +kernel, rfl, by decide +kernel, by decide +kernel⟩
abbrev s_is_hill : Stmt := topS 6
theorem sc_is_hill : FnScope ["value", "one"] ["value"] (defScope s_is_hill) := ⟨rfl, rfl, rfl, by decide +kernel, rfl, by decide +kernel, by decide +kernel⟩
abbrev s_are_hills : Stmt := topS 7
theorem sc_are_hills : FnScope ["value", "hill"] ["value"] (defScope s_are_hills) := ⟨rfl, rfl, rfl, by decide +kernel, rfl, by decide +kernel, by decide +kernel⟩
abbrev s_height_at : Stmt := topS 8
theorem sc_height_at : FnScope ["hills", "place", "begin", "end", "height"] ["hills", "place"] (defScope s_height_at) := ⟨rfl, rfl, rfl, by decide +kernel, rfl, by decide +kernel, by decide +kernel⟩
abbrev s_horizon : Stmt := topS 9
theorem sc_horizon : FnScope ["hills", "places", "found", "place", "height", "begin", "_", "end"] ["hills"] (defScope s_horizon) := ⟨rfl, rfl, rfl, by decide +kernel, rfl, by decide +kernel, by decide +kernel⟩
abbrev s_seen : Stmt := topS 10
theorem sc_seen : FnScope ["hills", "found", "number", "others", "begin", "end", "height", "place"] ["hills"] (defScope s_seen) := ⟨rfl, rfl, rfl, by decide +kernel, rfl, by decide +kernel, by decide +kernel⟩
abbrev s_hidden : Stmt := topS 11
theorem sc_hidden : FnScope ["hills", "place"] ["hills"] (defScope s_hidden) := ⟨rfl, rfl, rfl, by decide +kernel, rfl, by decide +kernel, by decide +kernel⟩
abbrev s__law_draws : Stmt := topS 13
theorem sc__law_draws : FnScope ["script", "draws", "cell", "seed", "k", "number", "first"] ["script"] (defScope s__law_draws) := ⟨rfl, rfl, rfl, by decide +kernel, rfl, by decide +kernel, by decide +kernel⟩
abbrev s__law_take : Stmt := topS 14
theorem sc__law_take : FnScope ["draws", "bound"] ["draws", "bound"] (defScope s__law_take) := ⟨rfl, rfl, rfl, by decide +kernel, rfl, by decide +kernel, by decide +kernel⟩
abbrev s__law_says : Stmt := topS 15
theorem sc__law_says : FnScope ["told", "due"] ["told", "due"] (defScope s__law_says) := ⟨rfl, rfl, rfl, by decide +kernel, rfl, by decide +kernel, by decide +kernel⟩
abbrev s__law_alike : Stmt := topS 16
theorem sc__law_alike : FnScope ["found", "due", "k"] ["found", "due"] (defScope s__law_alike) := ⟨rfl, rfl, rfl, by decide +kernel, rfl, by decide +kernel, by decide +kernel⟩
abbrev s__law_heights : Stmt := topS 17
theorem sc__law_heights : FnScope ["hills", "found", "begin", "end", "height", "place"] ["hills"] (defScope s__law_heights) := ⟨rfl, rfl, rfl, by decide +kernel, rfl, by decide +kernel, by decide +kernel⟩
abbrev s__law_horizon : Stmt := topS 18
theorem sc__law_horizon : FnScope ["hills", "place", "heights", "last", "found"] ["hills"] (defScope s__law_horizon) := ⟨rfl, rfl, rfl, by decide +kernel, rfl, by decide +kernel, by decide +kernel⟩
abbrev s__law_seen : Stmt := topS 19
theorem sc__law_seen : FnScope ["hills", "found", "k", "others", "place"] ["hills"] (defScope s__law_seen) := ⟨rfl, rfl, rfl, by decide +kernel, rfl, by decide +kernel, by decide +kernel⟩
abbrev s_law : Stmt := topS 20
theorem sc_law : FnScope ["script", "draws", "k", "hills", "turn", "begin", "more", "left", "whole", "shared", "odd", "wide", "heights", "due", "place", "value", "end", "height", "hill", "j"] ["script"] (defScope s_law) := ⟨rfl, rfl, rfl, by decide +kernel, rfl, by decide +kernel, by decide +kernel⟩
structure Ads where
  a_is_number : Addr
  d_is_number : FuncData
  a_is_hill : Addr
  d_is_hill : FuncData
  a_are_hills : Addr
  d_are_hills : FuncData
  a_height_at : Addr
  d_height_at : FuncData
  a_horizon : Addr
  d_horizon : FuncData
  a_seen : Addr
  d_seen : FuncData
  a_hidden : Addr
  d_hidden : FuncData
  a__law_draws : Addr
  d__law_draws : FuncData
  a__law_take : Addr
  d__law_take : FuncData
  a__law_says : Addr
  d__law_says : FuncData
  a__law_alike : Addr
  d__law_alike : FuncData
  a__law_heights : Addr
  d__law_heights : FuncData
  a__law_horizon : Addr
  d__law_horizon : FuncData
  a__law_seen : Addr
  d__law_seen : FuncData
  a_law : Addr
  d_law : FuncData
  c_is_hill : Addr
  p_is_hill : Addr
  c_are_hills : Addr
  p_are_hills : Addr
  c_seen : Addr
  p_seen : Addr
structure Txt (K : PySem.W.Frag) (mg : Str → Option Value) (A : Ads) : Prop where
  f_is_number : Fun K "is_number" "is_number" s_is_number A.a_is_number A.d_is_number
  m_is_number : mg "is_number" = some (.ref A.a_is_number)
  b_is_number : Binds K A.d_is_number ["value", "least", "most"] []
  f_is_hill : Fun K "is_hill" "is_hill" s_is_hill A.a_is_hill A.d_is_hill
  m_is_hill : mg "is_hill" = some (.ref A.a_is_hill)
  b_is_hill : Binds K A.d_is_hill ["value"] []
  f_are_hills : Fun K "are_hills" "are_hills" s_are_hills A.a_are_hills A.d_are_hills
  m_are_hills : mg "are_hills" = some (.ref A.a_are_hills)
  b_are_hills : Binds K A.d_are_hills ["value"] []
  f_height_at : Fun K "height_at" "height_at" s_height_at A.a_height_at A.d_height_at
  m_height_at : mg "height_at" = some (.ref A.a_height_at)
  b_height_at : Binds K A.d_height_at ["hills", "place"] []
  f_horizon : Fun K "horizon" "horizon" s_horizon A.a_horizon A.d_horizon
  m_horizon : mg "horizon" = some (.ref A.a_horizon)
  b_horizon : Binds K A.d_horizon ["hills"] []
  f_seen : Fun K "seen" "seen" s_seen A.a_seen A.d_seen
  m_seen : mg "seen" = some (.ref A.a_seen)
  b_seen : Binds K A.d_seen ["hills"] []
  f_hidden : Fun K "hidden" "hidden" s_hidden A.a_hidden A.d_hidden
  m_hidden : mg "hidden" = some (.ref A.a_hidden)
  b_hidden : Binds K A.d_hidden ["hills"] []
  f__law_draws : Fun K "_law_draws" "_law_draws" s__law_draws A.a__law_draws A.d__law_draws
  m__law_draws : mg "_law_draws" = some (.ref A.a__law_draws)
  b__law_draws : Binds K A.d__law_draws ["script"] []
  f__law_take : Fun K "_law_take" "_law_take" s__law_take A.a__law_take A.d__law_take
  m__law_take : mg "_law_take" = some (.ref A.a__law_take)
  b__law_take : Binds K A.d__law_take ["draws", "bound"] []
  f__law_says : Fun K "_law_says" "_law_says" s__law_says A.a__law_says A.d__law_says
  m__law_says : mg "_law_says" = some (.ref A.a__law_says)
  b__law_says : Binds K A.d__law_says ["told", "due"] []
  f__law_alike : Fun K "_law_alike" "_law_alike" s__law_alike A.a__law_alike A.d__law_alike
  m__law_alike : mg "_law_alike" = some (.ref A.a__law_alike)
  b__law_alike : Binds K A.d__law_alike ["found", "due"] []
  f__law_heights : Fun K "_law_heights" "_law_heights" s__law_heights A.a__law_heights A.d__law_heights
  m__law_heights : mg "_law_heights" = some (.ref A.a__law_heights)
  b__law_heights : Binds K A.d__law_heights ["hills"] []
  f__law_horizon : Fun K "_law_horizon" "_law_horizon" s__law_horizon A.a__law_horizon A.d__law_horizon
  m__law_horizon : mg "_law_horizon" = some (.ref A.a__law_horizon)
  b__law_horizon : Binds K A.d__law_horizon ["hills"] []
  f__law_seen : Fun K "_law_seen" "_law_seen" s__law_seen A.a__law_seen A.d__law_seen
  m__law_seen : mg "_law_seen" = some (.ref A.a__law_seen)
  b__law_seen : Binds K A.d__law_seen ["hills"] []
  f_law : Fun K "law" "law" s_law A.a_law A.d_law
  m_law : mg "law" = some (.ref A.a_law)
  b_law : Binds K A.d_law ["script"] []
  n_abs : mg "abs" = none
  n_all : mg "all" = none
  n_any : mg "any" = none
  n_bool : mg "bool" = none
  n_enumerate : mg "enumerate" = none
  n_int : mg "int" = none
  n_isinstance : mg "isinstance" = none
  n_len : mg "len" = none
  n_list : mg "list" = none
  n_max : mg "max" = none
  n_min : mg "min" = none
  n_range : mg "range" = none
  n_reversed : mg "reversed" = none
  n_sorted : mg "sorted" = none
  n_str : mg "str" = none
  n_sum : mg "sum" = none
  n_tuple : mg "tuple" = none
  k_is_hill : A.d_is_hill.code = .ref A.c_is_hill
  k_are_hills : A.d_are_hills.code = .ref A.c_are_hills
  k_seen : A.d_seen.code = .ref A.c_seen
  g_MOST_HEIGHT : GC K mg "MOST_HEIGHT" (.int 50)
  g_MOST_PLACE : GC K mg "MOST_PLACE" (.int 100)
  g_MOST_HILLS : GC K mg "MOST_HILLS" (.int 10)
structure Tbs (mg : Str → Option Value) (base : Heap) (A : Ads) : Prop where
  t_is_hill : LamX.TabB base mg A.c_is_hill A.p_is_hill
  t_are_hills : LamX.TabB base mg A.c_are_hills A.p_are_hills
  t_seen : LamX.TabB base mg A.c_seen A.p_seen
theorem bt_isinstance : bootBuiltins "isinstance" = some (.builtin "isinstance") := by decide +kernel
section
variable {P : Program} {w : World} {K : PySem.W.Frag} {mg : Str → Option Value} {base : Heap} {A : Ads}
abbrev LL (A : Ads) : Lw := lwA [A.p_is_hill, A.p_are_hills, A.p_seen]
/-- draws: any row of ints -/
def sp__law_draws : FL.Fn := fun cs q _ => match cs with
  | [.fz (.list ds)] => ∃ ns : List Int, ds = ns.map .int ∧ ns.length ≤ 63 ∧ ∀ ms : List Int, q (ms.map .int)
  | _ => False
theorem ok__law_draws (T : Txt K mg A) (B : Tbs mg base A) : FnOk P w K mg base (L2N.CX P w) 1 A.a__law_draws A.d__law_draws ["script"] (SpfN K (LL A) sp__law_draws) := by
  refine fn_flatN T.f__law_draws sc__law_draws (by intro cs q r h; unfold sp__law_draws at h; first | (obtain ⟨_, rfl, _⟩ := h; rfl) | (obtain ⟨_, _, rfl, _⟩ := h; rfl) | (obtain ⟨_, _, _, rfl, _⟩ := h; rfl) | (obtain ⟨_, _, _, _, rfl, _⟩ := h; rfl) | (obtain ⟨_, _, _, _, _, rfl, _⟩ := h; rfl) | (obtain ⟨_, _, _, _, _, _, rfl, _⟩ := h; rfl) | (obtain ⟨_, _, _, _, _, _, _, rfl, _⟩ := h; rfl) | (obtain ⟨_, _, _, _, _, _, _, _, rfl, _⟩ := h; rfl) | (obtain ⟨_, _, _, _, _, _, _, _, _, rfl, _⟩ := h; rfl) | (obtain ⟨_, _, _, _, _, _, _, _, _, _, rfl, _⟩ := h; rfl) | (obtain ⟨_, _, _, _, _, _, _, _, _, _, _, rfl, _⟩ := h; rfl) | (obtain ⟨_, _, _, _, _, _, _, _, _, _, _, _, rfl, _⟩ := h; rfl) | (split at h <;> first | rfl | exact h.elim)) (fun cdv hcd A' outer s H E hr tk po => ?_)
  have nd := sc__law_draws.nd
  refine ⟨_, _, (fss_cons (fs_own (i := 1) nd (fn_lst fl_nil))
 (fss_cons (fs_for po rfl (fi_seq (fe_var 0)) (fg_name (i := 2) nd)
  (fss_cons (fs_set (i := 5) nd (fe_bi cal_abs T.n_abs (by decide +kernel) (fl_cons (fe_var 2) fl_nil)))
 (fss_cons (fs_if (ft_cmp cmd_lt (fb_var 5) (fb_fe (fe_pow fe_int fe_int)))
  (fss_cons (fs_set (i := 6) nd (fe_mod (fe_ty cal_int1 T.n_int (by decide +kernel) (fl_cons (fe_add (fe_mul (fe_var 5) fe_int) fe_int) fl_nil)) fe_int))
 (fss_cons (fs_app 1 (fe_mod (fe_ty cal_int1 T.n_int (by decide +kernel) (fl_cons (fe_add (fe_mul (fe_var 6) fe_int) (fe_var 5)) fl_nil)) fe_int))
 (fss_cons (fs_app 1 (fe_mod (fe_ty cal_int1 T.n_int (by decide +kernel) (fl_cons (fe_add (fe_var 6) (fe_div (fe_var 5) fe_int)) fl_nil)) fe_int))
 (fss_one (fs_set (i := 5) nd fe_int)))))
  fss_nil)
 (fss_one (fs_for po rfl (fi_rng1 T.n_range (fl_cons fe_int fl_nil)) (fg_name (i := 4) nd)
  (fss_one (fs_if (ft_cmp cmd_gt (fb_var 5) (fb_fe fe_int))
  (fss_cons (fs_app 1 (fe_mod (fe_ty cal_int1 T.n_int (by decide +kernel) (fl_cons (fe_var 5) fl_nil)) fe_int))
 (fss_one (fs_set (i := 5) nd (fe_div (fe_var 5) fe_int))))
  fss_nil)))))))
 (fss_cons (fs_set (i := 3) nd fe_int)
 (fss_cons (fs_if (ft_cmp cmd_gt (fb_fe (fe_bi1 cal_len T.n_len PySem.boot_len (fb_var 0))) (fb_fe fe_int))
  (fss_one (fs_set (i := 3) nd (fe_add fe_int (fe_bi cal_abs T.n_abs (by decide +kernel) (fl_cons (fe_ix (fb_var 0) fe_int) fl_nil)))))
  fss_nil)
 (fss_cons (fs_for po rfl (fi_rng1 T.n_range (fl_cons fe_int fl_nil)) (fg_name (i := 4) nd)
  (fss_cons (fs_set (i := 3) nd (fe_mod (fe_ty cal_int1 T.n_int (by decide +kernel) (fl_cons (fe_add (fe_mul (fe_var 3) fe_int) fe_int) fl_nil)) fe_int))
 (fss_one (fs_app 1 (fe_div (fe_var 3) fe_int)))))
 (fss_one (fs_retO (fn_listRev rfl T.n_list T.n_reversed (fb_var 1))))))))), ?_⟩
  clear hr tk po nd
  clear hcd
  intro cs q r h
  unfold sp__law_draws at h
  split at h
  case h_2 => exact h.elim
  obtain ⟨ns, rfl, h63, h⟩ := h
  have big : ∀ {k : Nat} {zs : List Int}, zs.length ≤ k → k ≤ 5000 → (zs.map PyData.int).length < sizeLine := fun {k zs} h1 h2 => by
    rw [List.length_map]
    exact Nat.lt_of_le_of_lt (Nat.le_trans h1 h2) (by decide)
  walk_at "wp"
  refine ⟨Nat.zero_le _, fun i s' => ∃ (ms : List Int) (x2 x3 x4 x5 x6 : Cel), ms.length ≤ 62 * i ∧ s' = [.fz (.list (ns.map .int)), .ow (ms.map .int), x2, x3, x4, x5, x6], ⟨[], _, _, _, _, _, Nat.le_refl _, rfl⟩, ?_, ?_⟩
  · rintro i d s' e ⟨ms, x2, x3, x4, x5, x6, hl, rfl⟩
    have hi : i < 63 := by
      have := (List.getElem?_eq_some_iff.mp e).1
      rw [List.length_map] at this
      omega
    rw [List.getElem?_map] at e
    cases en : ns[i]? with
    | none => rw [en] at e; cases e
    | some n =>
      rw [en] at e
      cases e
      have inner : ∀ (E : En) (ms : List Int) (num : Int) (x3 x4 x6 : Cel), ms.length ≤ 62 * i + 2 → (∀ s', (∃ (ms : List Int) (x2 x3 x4 x5 x6 : Cel), ms.length ≤ 62 * (i + 1) ∧ s' = [.fz (.list (ns.map .int)), .ow (ms.map .int), x2, x3, x4, x5, x6]) → E.nx s') → wForL (wgName 4)
          (wIfS (wCmpT (dO fun i j => decide (j < i)) (wVarB 5) (wC (.int 0)))
            (wSeq (wApp 1 (wOp (dI (fun x j => 0 < j) fun i j => i % j) (wCal dInt1 (wCons (wVar 5) wNil)) (wC (.int 997))))
              (wAsg (wOp (dI (fun x j => 0 < j ∧ DivOk j) fun i j => i / j) (wVar 5) (wC (.int 997))) (wgName 5))) wNext) (rngD 0 60)
          [.fz (.list (ns.map .int)), .ow (ms.map .int), .fz (.int n), x3, x4, .fz (.int num), x6] E := by
        intro E ms num x3 x4 x6 hm hE
        refine ⟨fun j s' => ∃ (ms : List Int) (num : Int) (x4 : Cel), ms.length ≤ 62 * i + 2 + j ∧ s' = [.fz (.list (ns.map .int)), .ow (ms.map .int), .fz (.int n), x3, x4, .fz (.int num), x6], ⟨ms, num, x4, hm, rfl⟩, ?_, ?_⟩
        · rintro j d s' e ⟨ms, num, x4, hm, rfl⟩
          have hj := (rng_get e).2
          walk_at "wp"
          refine cond_of (fun _ => ⟨by decide, big (k := 62 * i + 2 + j) hm (by omega), ⟨by decide, div_s (by decide) (by decide)⟩, ms ++ [num % 997], num / 997, .fz d, by rw [List.length_append, List.length_singleton]; omega, by rw [snoc_int]⟩) (fun _ => ⟨ms, num, .fz d, by omega, rfl⟩)
        · rintro s' ⟨ms, num, x4, hm, rfl⟩
          rw [rng_len] at hm
          exact hE _ ⟨ms, _, _, _, _, _, by omega, rfl⟩
      walk_at "wp"
      refine ⟨⟨by decide, by decide, by decide⟩, cond_of (fun _ => ⟨mul_r (by decide) (by decide), by decide, mul_r (by decide) (by decide), by decide, big hl (by omega), ⟨by decide, div_s (by decide) (by decide)⟩, by decide, ?_, ⟨by decide, by decide⟩, ?_⟩) (fun _ => ⟨⟨by decide, by decide⟩, ?_⟩)⟩
      · rw [snoc_int]
        exact big (k := 62 * i + 1) (by rw [List.length_append, List.length_singleton]; omega) (by omega)
      · rw [snoc_int, snoc_int]
        exact inner _ _ _ _ _ _ (by rw [List.length_append, List.length_append, List.length_singleton, List.length_singleton]; omega) fun _ h => h
      · exact inner _ _ _ _ _ _ (by omega) fun _ h => h
  · rintro s' ⟨ms, x2, x3, x4, x5, x6, hl, rfl⟩
    rw [List.length_map] at hl
    have last : ∀ (E : En) (seed : Int) (x4 : Cel), (∀ (ms : List Int) x2 x3 x4 x5 x6, E.nx [.fz (.list (ns.map .int)), .ow (ms.map .int), x2, x3, x4, x5, x6]) → wForL (wgName 4)
          (wSeq (wAsg (wOp (dI (fun x j => 0 < j) fun i j => i % j) (wCal dInt1 (wCons (wOp dAdd (wOp (dI FL.MulOk fun i j => i * j) (wVar 3) (wC (.int 48271))) (wC (.int 69621))) wNil)) (wC (.int 2147483647))) (wgName 3))
            (wApp 1 (wOp (dI (fun x j => 0 < j ∧ DivOk j) fun i j => i / j) (wVar 3) (wC (.int 5))))) (rngD 0 900)
          [.fz (.list (ns.map .int)), .ow (ms.map .int), x2, .fz (.int seed), x4, x5, x6] E := by
      intro E seed x4 hE
      refine ⟨fun j s' => ∃ (ms : List Int) (seed : Int) (x4 : Cel), ms.length ≤ 3906 + j ∧ s' = [.fz (.list (ns.map .int)), .ow (ms.map .int), x2, .fz (.int seed), x4, x5, x6], ⟨ms, seed, x4, by omega, rfl⟩, ?_, ?_⟩
      · rintro j d s' e ⟨ms, seed, x4, hm, rfl⟩
        have hj := (rng_get e).2
        walk_at "wp"
        refine ⟨mul_r (by decide) (by decide), by decide, ⟨by decide, div_s (by decide) (by decide)⟩, big hm (by omega), ms ++ [(seed * 48271 + 69621) % 2147483647 / 5], (seed * 48271 + 69621) % 2147483647, .fz d, by rw [List.length_append, List.length_singleton]; omega, by rw [snoc_int]⟩
      · rintro s' ⟨ms, seed, x4, hm, rfl⟩
        exact hE _ _ _ _ _ _
    have fin : ∀ (ms : List Int), q (ms.map PyData.int).reverse := fun ms => by
      rw [← List.map_reverse]
      exact h _
    walk_at "wp"
    refine cond_of (fun hc => ?_) (fun _ => ⟨⟨by decide, by decide⟩, last _ _ _ fun ms _ _ _ _ _ => fin ms⟩)
    cases ns with
    | nil => exact absurd hc (by decide)
    | cons n ns =>
      exact ix_int (d := .int n) (by decide) rfl ⟨⟨by decide, by decide⟩, last _ _ _ fun ms _ _ _ _ _ => fin ms⟩
theorem ok__law_take (T : Txt K mg A) (B : Tbs mg base A) : FnOk P w K mg base (L2N.CX P w) 1 A.a__law_take A.d__law_take ["draws", "bound"] (Spf K (LL A) spTake) :=
  fn_take T.f__law_take sc__law_take T.n_len T.n_int (fun X hm hs hN => by
    have nl := (congrFun hm ("len" : Str)).trans T.n_len
    have ni := (congrFun hm ("int" : Str)).trans T.n_int
    have gl : Gl X "len" := (congrArg (fun z : Scope => z.names.lookup ("len" : Str)) hs).trans rfl
    have gi : Gl X "int" := (congrArg (fun z : Scope => z.names.lookup ("int" : Str)) hs).trans rfl
    have s0 : X.N[0]? = some ("draws" : Str) := by rw [hN]; rfl
    have s1 : X.N[1]? = some ("bound" : Str) := by rw [hN]; rfl
    have v0 : Vis X.env.scope "draws" := .inl ((congrArg (fun z : Scope => z.names.lookup ("draws" : Str)) hs).trans rfl)
    have v1 : Vis X.env.scope "bound" := .inl ((congrArg (fun z : Scope => z.names.lookup ("bound" : Str)) hs).trans rfl)
    exact pss_cons (ps_if (pt_cmpR op_eq (pe_callB call_len gl nl PySem.boot_len (pa_cons (pe_var s0 v0) pa_nil)) pe_int (nomark _)) (pss_one (ps_ret pe_int)) pss_nil)
      (pss_one (ps_ret (pe_op op_mod (pe_callTy call_int1 gi ni (by decide +kernel) (pa_cons (pe_bm0 PySem.F.plainAttrs_list PySem.F.slot_list_pop PySem.F.type_list_pop mt_pop (pe_var s0 v0)) pa_nil)) (pe_var s1 v1)))))
theorem none_nil (l : List D) : l.filterMap (fun _ => (none : Option D)) = [] := by simp
/-- an int between the bounds, no bool -/
def isNum (d : D) (a b : Int) : Bool := match d with
  | .int i => decide (a ≤ i) && decide (i ≤ b)
  | _ => false
def sp_is_number : Fs := fun cs q _ => match cs with
  | [.fz d, .fz (.int a), .fz (.int b)] => q (.bool (isNum d a b))
  | _ => False
theorem ok_is_number (T : Txt K mg A) (B : Tbs mg base A) : FnOk P w K mg base (L2N.CX P w) 1 A.a_is_number A.d_is_number ["value", "least", "most"] (Spf K (LL A) sp_is_number) := by
  refine fn_flat T.f_is_number sc_is_number (by intro cs q r h; unfold sp_is_number at h; first | (obtain ⟨_, rfl, _⟩ := h; rfl) | (obtain ⟨_, _, rfl, _⟩ := h; rfl) | (obtain ⟨_, _, _, rfl, _⟩ := h; rfl) | (obtain ⟨_, _, _, _, rfl, _⟩ := h; rfl) | (obtain ⟨_, _, _, _, _, rfl, _⟩ := h; rfl) | (obtain ⟨_, _, _, _, _, _, rfl, _⟩ := h; rfl) | (obtain ⟨_, _, _, _, _, _, _, rfl, _⟩ := h; rfl) | (obtain ⟨_, _, _, _, _, _, _, _, rfl, _⟩ := h; rfl) | (obtain ⟨_, _, _, _, _, _, _, _, _, rfl, _⟩ := h; rfl) | (obtain ⟨_, _, _, _, _, _, _, _, _, _, rfl, _⟩ := h; rfl) | (obtain ⟨_, _, _, _, _, _, _, _, _, _, _, rfl, _⟩ := h; rfl) | (obtain ⟨_, _, _, _, _, _, _, _, _, _, _, _, rfl, _⟩ := h; rfl) | (split at h <;> first | rfl | exact h.elim)) (fun cdv hcd A' outer s H E hr tk po => ?_)
  have nd := sc_is_number.nd
  refine ⟨_, _, (fss_one (fs_ret (fe_andV (fe_isi isi_int T.n_isinstance bt_isinstance T.n_int (by decide +kernel) (fb_var 0)) (fe_andV (fe_not (fb_fe (fe_isi isi_bool T.n_isinstance bt_isinstance T.n_bool (by decide +kernel) (fb_var 0)))) (fe_one (fe_chain cmd_le cmd_le (fe_var 1) (fe_var 0) (fe_var 2))))))), ?_⟩
  clear hr tk po nd
  clear hcd
  intro cs q r h
  unfold sp_is_number at h
  split at h
  case h_2 => exact h.elim
  rename_i d a b
  cases d <;> walk_at "wp" <;> walk_at "sm" <;> (try exact h)
  refine ⟨fun z => ?_, fun z => ?_⟩ <;> simpa [isNum, z] using h
/-! ### hills, plainly -/
abbrev Hl := Int × Int × Int
def cov (x : Hl) (p : Int) : Int := if x.1 ≤ p ∧ p < x.2.1 then x.2.2 else 0
/-- how high the hills are at p -/
def hgt : List Hl → Int → Int
  | [], _ => 0
  | x :: xs, p => max (cov x p) (hgt xs p)
theorem hgt_nn (p : Int) : ∀ xs : List Hl, 0 ≤ hgt xs p
  | [] => Int.le_refl _
  | x :: xs => by have := hgt_nn p xs; simp only [hgt]; omega
theorem hgt_ge {p : Int} : ∀ {xs : List Hl} {x : Hl}, x ∈ xs → cov x p ≤ hgt xs p
  | y :: xs, x, h => by
    simp only [hgt]
    rcases List.mem_cons.mp h with rfl | h
    · omega
    · have := hgt_ge (p := p) h; omega
theorem hgt_le {p m : Int} (m0 : 0 ≤ m) : ∀ {xs : List Hl}, (∀ x ∈ xs, cov x p ≤ m) → hgt xs p ≤ m
  | [], _ => m0
  | x :: xs, h => by
    have := h x List.mem_cons_self
    have := hgt_le m0 (xs := xs) fun y hy => h y (List.mem_cons_of_mem _ hy)
    simp only [hgt]
    omega
theorem hgt_sub {p : Int} {xs ys : List Hl} (h : ∀ x ∈ xs, x ∈ ys) : hgt xs p ≤ hgt ys p := hgt_le (hgt_nn p ys) fun x hx => hgt_ge (h x hx)
theorem hgt_same {p : Int} {xs ys : List Hl} (h : ∀ x, x ∈ xs ↔ x ∈ ys) : hgt xs p = hgt ys p := Int.le_antisymm (hgt_sub fun x hx => (h x).mp hx) (hgt_sub fun x hx => (h x).mpr hx)
theorem hgt_att {p : Int} : ∀ {xs : List Hl}, hgt xs p ≠ 0 → ∃ x ∈ xs, cov x p = hgt xs p
  | [], h => absurd rfl h
  | x :: xs, h => by
    by_cases q : cov x p < hgt xs p
    · have := hgt_nn p xs
      obtain ⟨y, hy, e⟩ := hgt_att (p := p) (xs := xs) (by simp only [hgt] at h; omega)
      exact ⟨y, List.mem_cons_of_mem _ hy, by simp only [hgt]; omega⟩
    · exact ⟨x, List.mem_cons_self, by simp only [hgt]; omega⟩
def HOk (xs : List Hl) : Prop := ∀ x ∈ xs, 0 ≤ x.1 ∧ x.1 < x.2.1 ∧ x.2.1 ≤ 100 ∧ 1 ≤ x.2.2 ∧ x.2.2 ≤ 50
def pts (xs : List Hl) : List Int := xs.map (fun x => x.1) ++ xs.map fun x => x.2.1
/-- nothing changes where none begins or ends -/
theorem hgt_step {p : Int} : ∀ {xs : List Hl}, p ∉ pts xs → hgt xs p = hgt xs (p - 1)
  | [], _ => rfl
  | x :: xs, h => by
    have h1 : x.1 ≠ p := fun z => h (by unfold pts; simp [z])
    have h2 : x.2.1 ≠ p := fun z => h (by unfold pts; simp [z])
    have h3 : p ∉ pts xs := fun z => h (by
      unfold pts at z ⊢
      simp only [List.mem_append, List.map_cons, List.mem_cons] at z ⊢
      rcases z with z | z
      · exact .inl (.inr z)
      · exact .inr (.inr z))
    have ih := hgt_step h3
    have e : cov x p = cov x (p - 1) := by
      unfold cov
      by_cases q : x.1 ≤ p ∧ p < x.2.1
      · rw [if_pos q, if_pos (by omega)]
      · rw [if_neg q, if_neg (by omega)]
    simp only [hgt]
    rw [e, ih]
theorem hgt_out {xs : List Hl} (ok : HOk xs) {p : Int} (h : p < 0 ∨ 100 ≤ p) : hgt xs p = 0 := by
  refine Int.le_antisymm (hgt_le (Int.le_refl _) fun x hx => ?_) (hgt_nn p xs)
  have := ok x hx
  unfold cov
  rw [if_neg (by omega)]
  exact Int.le_refl _
/-- where it changes, of the first n places -/
def CH (f : Int → Int) : Nat → List (Int × Int)
  | 0 => []
  | n + 1 => CH f n ++ if f n ≠ f ((n : Int) - 1) then [((n : Int), f n)] else []
def lastV (l : List (Int × Int)) : Int := match l.getLast? with
  | none => 0
  | some x => x.2
theorem lastV_snoc (l : List (Int × Int)) (x : Int × Int) : lastV (l ++ [x]) = x.2 := by unfold lastV; simp
theorem lastV_CH {f : Int → Int} (f0 : f (-1) = 0) : ∀ n : Nat, lastV (CH f n) = f ((n : Int) - 1)
  | 0 => by rw [show ((0 : Nat) : Int) - 1 = -1 by decide, f0]; rfl
  | n + 1 => by
    have ih := lastV_CH f0 n
    rw [CH, show ((n + 1 : Nat) : Int) - 1 = n by omega]
    by_cases q : f n ≠ f ((n : Int) - 1)
    · rw [if_pos q, lastV_snoc]
    · rw [if_neg q, List.append_nil, ih]
      exact (Classical.not_not.mp q).symm
theorem CH_same {f : Int → Int} {r : Nat} : ∀ n : Nat, (∀ c : Int, r ≤ c → c < r + n → f c = f (c - 1)) → CH f (r + n) = CH f r ∧ f ((r + n : Nat) - 1) = f ((r : Int) - 1)
  | 0, _ => ⟨rfl, by simp⟩
  | n + 1, h => by
    obtain ⟨h1, h2⟩ := CH_same n fun c c0 c1 => h c c0 (by omega)
    have e := h ((r + n : Nat) : Int) (by omega) (by omega)
    refine ⟨?_, ?_⟩
    · rw [← Nat.add_assoc, CH, if_neg (Classical.not_not.mpr e), List.append_nil, h1]
    · rw [← h2, ← e]
      congr 1
      omega
/-- what the walk along places finds -/
def wk (f : Int → Int) : List Int → List (Int × Int) → List (Int × Int)
  | [], acc => acc
  | q :: ms, acc => wk f ms (if f q ≠ lastV acc then acc ++ [(q, f q)] else acc)
theorem wk_len (f : Int → Int) : ∀ (ms : List Int) (acc : List (Int × Int)), (wk f ms acc).length ≤ acc.length + ms.length
  | [], acc => Nat.le_refl _
  | q :: ms, acc => by
    have := wk_len f ms (if f q ≠ lastV acc then acc ++ [(q, f q)] else acc)
    have e : (if f q ≠ lastV acc then acc ++ [(q, f q)] else acc).length ≤ acc.length + 1 := by split <;> simp
    rw [wk, List.length_cons]
    omega
theorem wk_snoc (f : Int → Int) : ∀ (ms : List Int) (q : Int) (acc : List (Int × Int)), wk f (ms ++ [q]) acc = if f q ≠ lastV (wk f ms acc) then wk f ms acc ++ [(q, f q)] else wk f ms acc
  | [], q, acc => rfl
  | m :: ms, q, acc => by
    rw [List.cons_append, wk, wk_snoc f ms q]
    rfl
theorem wk_is {f : Int → Int} (f0 : f (-1) = 0) {N : Nat} : ∀ (ms : List Int) (r : Nat), ms.Pairwise (· ≤ ·) → (∀ q ∈ ms, (r : Int) - 1 ≤ q ∧ q < N ∧ 0 ≤ q) → r ≤ N → (∀ c : Int, r ≤ c → c < N → c ∉ ms → f c = f (c - 1)) → wk f ms (CH f r) = CH f N
  | [], r, _, _, hr, hc => by
    have := (CH_same (f := f) (r := r) (N - r) fun c c0 c1 => hc c c0 (by omega) List.not_mem_nil).1
    rw [show r + (N - r) = N by omega] at this
    exact this.symm
  | q :: ms, r, hs, hq, hr, hc => by
    obtain ⟨hs1, hs2⟩ := List.pairwise_cons.mp hs
    have hq0 := hq q List.mem_cons_self
    rw [wk, lastV_CH f0]
    by_cases z : q = r - 1
    · rw [if_neg (by rw [z]; exact Classical.not_not.mpr rfl)]
      refine wk_is f0 ms r hs2 (fun p hp => hq p (List.mem_cons_of_mem _ hp)) hr fun c c0 c1 c2 => hc c c0 c1 fun y => ?_
      rcases List.mem_cons.mp y with y | y
      · omega
      · exact c2 y
    · obtain ⟨n, rfl⟩ : ∃ n : Nat, q = (r + n : Nat) := ⟨(q - r).toNat, by omega⟩
      have none_ : ∀ c : Int, r ≤ c → c < r + n → f c = f (c - 1) := fun c c0 c1 => hc c c0 (by omega) fun y => by
        rcases List.mem_cons.mp y with y | y
        · omega
        · have := hs1 c y; omega
      obtain ⟨h1, h2⟩ := CH_same n none_
      have e : (if f ((r + n : Nat) : Int) ≠ f ((r : Int) - 1) then CH f r ++ [(((r + n : Nat) : Int), f ((r + n : Nat) : Int))] else CH f r) = CH f (r + n + 1) := by
        rw [CH, h1, h2]
        split
        · rfl
        · rw [List.append_nil]
      rw [e]
      refine wk_is f0 ms (r + n + 1) hs2 (fun p hp => ⟨?_, (hq p (List.mem_cons_of_mem _ hp)).2⟩) (by omega) fun c c0 c1 c2 => hc c (by omega) c1 fun y => ?_
      · have := hs1 p hp; omega
      · rcases List.mem_cons.mp y with y | y
        · omega
        · exact c2 y
theorem pts_b {xs : List Hl} (ok : HOk xs) {q : Int} (h : q ∈ pts xs) : 0 ≤ q ∧ q ≤ 100 := by
  unfold pts at h
  rcases List.mem_append.mp h with h | h <;> obtain ⟨x, hx, rfl⟩ := List.mem_map.mp h <;> have := ok x hx <;> omega
/-- the walk along all begins and ends, put in order, finds all changes -/
theorem wk_hills {xs : List Hl} (ok : HOk xs) {ms : List Int} (hp : ms.Perm (pts xs)) (hs : ms.Pairwise (· ≤ ·)) : wk (hgt xs) ms [] = CH (hgt xs) 102 :=
  wk_is (f := hgt xs) (hgt_out ok (.inl (by decide))) (N := 102) ms 0 hs (fun q hq => by have := pts_b ok (hp.mem_iff.mp hq); omega) (by decide) fun c _ _ c2 => hgt_step fun z => c2 (hp.mem_iff.mpr z)
theorem ch_len {xs : List Hl} (ok : HOk xs) : (CH (hgt xs) 102).length ≤ 2 * xs.length := by
  have hp := List.mergeSort_perm (pts xs) (fun a b => decide (a ≤ b))
  have hs := List.pairwise_mergeSort (le := fun a b : Int => decide (a ≤ b)) (fun a b c h1 h2 => by simp only [decide_eq_true_eq] at *; omega) (fun a b => by simp only [Bool.or_eq_true, decide_eq_true_eq]; omega) (pts xs)
  rw [← wk_hills ok hp (hs.imp fun h => of_decide_eq_true h)]
  have := wk_len (hgt xs) ((pts xs).mergeSort fun a b => decide (a ≤ b)) []
  rw [List.length_mergeSort] at this
  unfold pts at this
  simp only [List.length_nil, List.length_append, List.length_map] at this
  unfold pts
  omega
/-! ### which are seen -/
def cutAt (xs : List Hl) (k : Nat) : List Hl := xs.take k ++ xs.drop (k + 1)
def vis (xs : List Hl) (k : Nat) : Bool := match xs[k]? with
  | some x => (List.range (x.2.1 - x.1).toNat).any fun i : Nat => decide (hgt (cutAt xs k) (x.1 + i) < x.2.2)
  | none => false
def seenL (xs : List Hl) : List Nat := (List.range xs.length).filter (vis xs)
theorem cut_mem {xs : List Hl} {k : Nat} {x : Hl} (h : xs[k]? = some x) (y : Hl) : y ∈ xs ↔ y = x ∨ y ∈ cutAt xs k := by
  obtain ⟨hk, rfl⟩ := List.getElem?_eq_some_iff.mp h
  have e : xs = xs.take k ++ xs[k] :: xs.drop (k + 1) := by
    rw [← List.drop_eq_getElem_cons hk, List.take_append_drop]
  unfold cutAt
  conv => lhs; rw [e]
  simp only [List.mem_append, List.mem_cons]
  constructor
  · rintro (h | h | h)
    · exact .inr (.inl h)
    · exact .inl h
    · exact .inr (.inr h)
  · rintro (h | h | h)
    · exact .inr (.inl h)
    · exact .inl h
    · exact .inr (.inr h)
/-- a hill that is not seen can be left out -/
theorem unseen {xs : List Hl} {k : Nat} (hk : k < xs.length) (h : vis xs k = false) (p : Int) : hgt (cutAt xs k) p = hgt xs p := by
  have e : xs[k]? = some xs[k] := List.getElem?_eq_getElem hk
  have m := cut_mem e
  refine Int.le_antisymm (hgt_sub fun x hx => (m x).mpr (.inr hx)) (hgt_le (hgt_nn _ _) fun x hx => ?_)
  rcases (m x).mp hx with rfl | hx
  · unfold cov
    split
    · rename_i q
      unfold vis at h
      rw [e] at h
      dsimp only at h
      rw [List.any_eq_false] at h
      have := h (p - xs[k].1).toNat (List.mem_range.mpr (by omega))
      rw [show xs[k].1 + ((p - xs[k].1).toNat : Int) = p by omega] at this
      simp only [decide_eq_true_eq] at this
      omega
    · exact hgt_nn _ _
  · exact hgt_ge hx
theorem cut_ok {xs : List Hl} (ok : HOk xs) (k : Nat) : HOk (cutAt xs k) := fun x hx => ok x (by
  unfold cutAt at hx
  rcases List.mem_append.mp hx with h | h
  · exact List.mem_of_mem_take h
  · exact List.mem_of_mem_drop h)
theorem cut_length {xs : List Hl} {k : Nat} (hk : k < xs.length) : (cutAt xs k).length + 1 = xs.length := by
  unfold cutAt
  rw [List.length_append, List.length_take, List.length_drop]
  omega
/-! ### how much is hidden -/
def Sm (f : Int → Int) (n : Nat) : Int := ((List.range n).map fun p : Nat => f p).sum
theorem Sm_succ (f : Int → Int) (n : Nat) : Sm f (n + 1) = Sm f n + f n := by
  unfold Sm
  rw [List.range_succ, List.map_append, List.sum_append]
  simp
theorem Sm_cov (x : Hl) (h0 : 0 ≤ x.1) (h1 : x.1 ≤ x.2.1) : ∀ n : Nat, Sm (cov x) n = (if (n : Int) ≤ x.1 then 0 else if (n : Int) ≤ x.2.1 then n - x.1 else x.2.1 - x.1) * x.2.2
  | 0 => by
    rw [if_pos (by omega), Int.zero_mul]; rfl
  | n + 1 => by
    rw [Sm_succ, Sm_cov x h0 h1 n]
    unfold cov
    by_cases q : x.1 ≤ n ∧ (n : Int) < x.2.1
    · rw [if_pos q, if_neg (show ¬ ((n + 1 : Nat) : Int) ≤ x.1 by omega), if_pos (show ((n + 1 : Nat) : Int) ≤ x.2.1 by omega)]
      by_cases z : (n : Int) ≤ x.1
      · rw [if_pos z, show ((n + 1 : Nat) : Int) - x.1 = 1 by omega]; omega
      · rw [if_neg z, if_pos (by omega), show ((n + 1 : Nat) : Int) - x.1 = (n - x.1) + 1 by omega, Int.add_mul]; omega
    · rw [if_neg q, Int.add_zero]
      by_cases z : (n : Int) < x.1
      · rw [if_pos (by omega), if_pos (by omega)]
      · rw [if_neg (show ¬ ((n + 1 : Nat) : Int) ≤ x.1 by omega), if_neg (show ¬ ((n + 1 : Nat) : Int) ≤ x.2.1 by omega)]
        by_cases y : (n : Int) ≤ x.1
        · rw [if_pos y, show x.2.1 - x.1 = 0 by omega]
        · rw [if_neg y]
          by_cases w : (n : Int) ≤ x.2.1
          · rw [if_pos w, show (n : Int) - x.1 = x.2.1 - x.1 by omega]
          · rw [if_neg w]
theorem Sm_max {u v : Int → Int} (hu : ∀ p, 0 ≤ u p) (hv : ∀ p, 0 ≤ v p) : ∀ n : Nat, Sm (fun p => max (u p) (v p)) n ≤ Sm u n + Sm v n ∧ (Sm (fun p => max (u p) (v p)) n = Sm u n + Sm v n ↔ ∀ p : Nat, p < n → u p = 0 ∨ v p = 0)
  | 0 => ⟨Int.le_refl _, by simp [Sm]⟩
  | n + 1 => by
    obtain ⟨h1, h2⟩ := Sm_max hu hv n
    rw [Sm_succ, Sm_succ, Sm_succ]
    have a := hu n
    have b := hv n
    refine ⟨by omega, ?_⟩
    constructor
    · intro e p hp
      by_cases q : p = n
      · subst q; omega
      · exact h2.mp (by omega) p (by omega)
    · intro h
      have e1 := h2.mpr fun p hp => h p (by omega)
      have e2 := h n (by omega)
      omega
def areaI (xs : List Hl) : Int := (xs.map fun x => (x.2.1 - x.1) * x.2.2).sum
def apart2 (x y : Hl) : Prop := ¬ (x.1 < y.2.1 ∧ y.1 < x.2.1)
theorem area_is : ∀ xs : List Hl, HOk xs → Sm (hgt xs) 100 ≤ areaI xs ∧ (Sm (hgt xs) 100 = areaI xs ↔ xs.Pairwise apart2)
  | [], _ => ⟨by decide, by constructor <;> intro _ <;> first | exact List.Pairwise.nil | decide⟩
  | x :: xs, ok => by
    have okx := ok x List.mem_cons_self
    have oks : HOk xs := fun y hy => ok y (List.mem_cons_of_mem _ hy)
    obtain ⟨h1, h2⟩ := area_is xs oks
    have c0 : ∀ p, 0 ≤ cov x p := fun p => by unfold cov; split <;> omega
    obtain ⟨m1, m2⟩ := Sm_max (u := cov x) (v := hgt xs) c0 (fun p => hgt_nn p xs) 100
    have e1 : Sm (cov x) 100 = (x.2.1 - x.1) * x.2.2 := by
      rw [Sm_cov x (by omega) (by omega) 100]
      by_cases z : ((100 : Nat) : Int) ≤ x.2.1
      · rw [if_neg (by omega), if_pos z, show ((100 : Nat) : Int) = x.2.1 by omega]
      · rw [if_neg (by omega), if_neg z]
    have e2 : areaI (x :: xs) = (x.2.1 - x.1) * x.2.2 + areaI xs := by unfold areaI; rw [List.map_cons, List.sum_cons]
    have e3 : Sm (hgt (x :: xs)) 100 = Sm (fun p => max (cov x p) (hgt xs p)) 100 := rfl
    rw [e3, e2]
    refine ⟨by omega, ?_⟩
    rw [List.pairwise_cons, ← h2]
    have key : (∀ p : Nat, p < 100 → cov x p = 0 ∨ hgt xs p = 0) ↔ ∀ y ∈ xs, apart2 x y := by
      constructor
      · intro h y hy
        have oky := oks y hy
        rintro ⟨q1, q2⟩
        have hp := h (max x.1 y.1).toNat (by omega)
        rw [show (((max x.1 y.1).toNat : Nat) : Int) = max x.1 y.1 by omega] at hp
        have d1 : cov x (max x.1 y.1) = x.2.2 := by unfold cov; rw [if_pos (by omega)]
        have d2 : cov y (max x.1 y.1) = y.2.2 := by unfold cov; rw [if_pos (by omega)]
        have := hgt_ge (p := max x.1 y.1) hy
        omega
      · intro h p _
        by_cases z : hgt xs p = 0
        · exact .inr z
        · obtain ⟨y, hy, e⟩ := hgt_att z
          have := h y hy
          refine .inl ?_
          unfold apart2 at this
          unfold cov at e ⊢
          split at e
          · rw [if_neg (by omega)]
          · exact absurd e.symm z
    rw [← key, ← m2]
    constructor
    · intro h; constructor <;> omega
    · rintro ⟨a, b⟩; omega
theorem CH_pre (f : Int → Int) (n : Nat) : ∀ j : Nat, ∃ r, CH f (n + j) = CH f n ++ r
  | 0 => ⟨[], by simp⟩
  | j + 1 => by
    obtain ⟨r, e⟩ := CH_pre f n j
    rw [← Nat.add_assoc, CH, e, List.append_assoc]
    exact ⟨_, rfl⟩
/-- the first change is where the first hill begins -/
theorem ch_head {xs : List Hl} (ok : HOk xs) {m : Int} (h1 : m ∈ xs.map fun x => x.1) (h2 : ∀ y ∈ xs.map fun x => x.1, m ≤ y) : ∃ v r, CH (hgt xs) 102 = (m, v) :: r := by
  obtain ⟨x, hx, rfl⟩ := List.mem_map.mp h1
  have okx := ok x hx
  obtain ⟨b, hb⟩ := Int.eq_ofNat_of_zero_le okx.1
  have low : ∀ p : Int, p < x.1 → hgt xs p = 0 := fun p hp => Int.le_antisymm (hgt_le (Int.le_refl _) fun y hy => by
    have := h2 y.1 (List.mem_map.mpr ⟨y, hy, rfl⟩)
    unfold cov
    rw [if_neg (by omega)]
    exact Int.le_refl _) (hgt_nn _ _)
  have e0 : CH (hgt xs) b = [] := by
    have := (CH_same (f := hgt xs) (r := 0) b fun c c0 c1 => by rw [low c (by omega), low (c - 1) (by omega)]).1
    rw [Nat.zero_add] at this
    exact this
  have up : 1 ≤ hgt xs x.1 := by
    have := hgt_ge (p := x.1) hx
    unfold cov at this
    rw [if_pos (by omega)] at this
    omega
  have e1 : CH (hgt xs) (b + 1) = [(x.1, hgt xs x.1)] := by
    rw [CH, e0, if_pos, hb]
    · rfl
    · rw [← hb, low (x.1 - 1) (by omega)]; omega
  obtain ⟨r, e2⟩ := CH_pre (hgt xs) (b + 1) (102 - (b + 1))
  rw [show b + 1 + (102 - (b + 1)) = 102 by omega, e1] at e2
  exact ⟨_, r, e2⟩
theorem ch_last {xs : List Hl} (ok : HOk xs) : lastV (CH (hgt xs) 102) = 0 := by
  rw [lastV_CH (hgt_out ok (.inl (by decide)))]
  exact hgt_out ok (.inr (by decide))
theorem hgt_fun {xs ys : List Hl} (h : ∀ p, hgt xs p = hgt ys p) : hgt xs = hgt ys := funext h
theorem hgt_rev (xs : List Hl) : hgt xs.reverse = hgt xs := funext fun _ => hgt_same fun x => List.mem_reverse
theorem HOk.rev {xs : List Hl} (ok : HOk xs) : HOk xs.reverse := fun x hx => ok x (List.mem_reverse.mp hx)
theorem sum_102 {xs : List Hl} (ok : HOk xs) : ((List.range 102).map fun p : Nat => hgt xs p).sum = Sm (hgt xs) 100 := by
  show Sm (hgt xs) 102 = _
  rw [Sm_succ, Sm_succ, hgt_out ok (.inr (by decide)), hgt_out ok (.inr (by decide))]
  omega
theorem all_seen {xs : List Hl} (h : ∀ k, k < xs.length → vis xs k = true) : seenL xs = List.range xs.length := by
  unfold seenL
  exact List.filter_eq_self.mpr fun k hk => h k (List.mem_range.mp hk)
def ovB (xs : List Hl) (j k : Nat) : Bool := match xs[j]?, xs[k]? with
  | some x, some y => decide (x.1 < y.2.1) && decide (y.1 < x.2.1)
  | _, _ => false
def ovl (xs : List Hl) (k : Nat) : List Nat := (List.range k).filter fun j => ovB xs j k
def shar (xs : List Hl) : List Nat := (List.range xs.length).filter fun k => !decide (ovl xs k = [])
theorem shar_nil (xs : List Hl) : shar xs = [] ↔ xs.Pairwise apart2 := by
  unfold shar
  rw [List.filter_eq_nil_iff, List.pairwise_iff_getElem]
  have key : ∀ j k (hj : j < xs.length) (hk : k < xs.length), ovB xs j k = true ↔ ¬ apart2 xs[j] xs[k] := fun j k hj hk => by
    unfold ovB apart2
    rw [List.getElem?_eq_getElem hj, List.getElem?_eq_getElem hk]
    simp
  constructor
  · intro h i j hi hj hij hc
    have := h j (List.mem_range.mpr hj)
    simp only [Bool.not_eq_true', Bool.not_eq_false, decide_eq_true_eq] at this
    unfold ovl at this
    have h2 := List.filter_eq_nil_iff.mp this i (List.mem_range.mpr hij)
    exact h2 ((key i j hi hj).mpr (fun z => z hc))
  · intro h k hk
    simp only [Bool.not_eq_true', Bool.not_eq_false, decide_eq_true_eq]
    unfold ovl
    refine List.filter_eq_nil_iff.mpr fun j hj => ?_
    have hk' := List.mem_range.mp hk
    have hj' := List.mem_range.mp hj
    intro z
    exact (key j k (by omega) hk').mp z (h j k (by omega) hk' hj')
/-! ### rows of natural numbers -/
def natsD (l : List Nat) : List D := l.map fun k => .int (k : Nat)
theorem nats_sh (l : List Nat) : Sh 1 (.list (natsD l)) := sh_l fun d hd => by
  obtain ⟨k, _, rfl⟩ := List.mem_map.mp hd
  exact sh_i
theorem nats_in (k : Nat) (l : List Nat) : inD (.int (k : Nat)) (natsD l) = decide (k ∈ l) := by
  unfold inD natsD
  rw [List.any_map]
  apply Bool.eq_iff_iff.mpr
  rw [List.any_eq_true, decide_eq_true_eq]
  constructor
  · rintro ⟨z, hz, e⟩
    have e' : PyData.eqv (.int ((z : Nat) : Int)) (.int (k : Nat)) = true := e
    rw [ev_ii, decide_eq_true_eq] at e'
    have : z = k := by omega
    rw [← this]; exact hz
  · intro h
    refine ⟨k, h, ?_⟩
    show PyData.eqv (.int ((k : Nat) : Int)) (.int (k : Nat)) = true
    rw [ev_ii, decide_eq_true rfl]
theorem nats_inOk (k : Nat) (l : List Nat) : inOk (.int (k : Nat)) (natsD l) := ⟨sh_ok (sh_i (n := 0)), sh_ok (nats_sh l)⟩
theorem rng_filt (n : Nat) (p : D → Bool) : (rngD 0 n).filter p = natsD ((List.range n).filter fun k : Nat => p (.int k)) := by
  have e : rngD 0 n = (List.range n).map fun k : Nat => PyData.int k := by
    unfold rngD
    exact List.map_congr_left fun k _ => by rw [Int.zero_add]
  rw [e, List.filter_map]
  rfl
theorem nats_nil (l : List Nat) : PyData.eqv (.list (natsD l)) (.list []) = decide (l = []) := by
  rw [ev_lnil]
  unfold natsD
  exact decide_eq_decide.mpr List.map_eq_nil_iff
theorem nats_len (l : List Nat) : (natsD l).length = l.length := by unfold natsD; rw [List.length_map]
def hD (x : Hl) : D := .tuple [.int x.1, .int x.2.1, .int x.2.2]
def hsD (xs : List Hl) : D := .tuple (xs.map hD)
def ltB : D → D → Bool
  | .int a, .int b => decide (a < b)
  | _, _ => false
def hillB (d : D) : Bool := match d with
  | .tuple [a, b, c] => isNum c 1 50 && (isNum a 0 100 && isNum b 0 100) && ltB a b
  | _ => false
def sp_is_hill : Fs := fun cs q _ => match cs with
  | [.fz d] => q (.bool (hillB d))
  | _ => False
local macro_rules | `(tactic| walk_at "wp") => `(tactic| try dsimp only [u_seq, u_next, u_drop, u_ret, u_retO, u_ifS, u_asg, u_setO, u_par, u_par3, wDead, wDeadE, wIdxC, dEqS, dNeS, wRaise, wTry, wAPx, wIsX, wCallT, wListI, sufS, wRevA, dRev, wZip, wAugi, wEnum, wSortI, u_parO, u_par3O, u_parM, wParM, wmNil, wmVal, wmNew, setAll, u_parOc, u_aug, u_for, u_app, u_fix, u_gname, l_map1, l_map0, b_nt, b_nf, c_t, c_f, wVar, wVarB, wC, wOp, dI, dI0, dAdd, wNeg, wCmpV, wCmpT, dEq, dNe, dO, isNoneD, dIsN, dNotN, wAndT, wOrT, wNotT, truOk, truD, wTruT, wNotV, wAndV, wOrV, wIf, wChain, wBoolV, wIx, wNil, wCons, wTup, wLst, wN, wANil, wACons, wADr, wCall, wCallN, wgNil, wgCons, wgTup, wgLst, wSeqI, seqD, wRng1, wRng2, wRng3, wCal, dAbs, dMax2, dMin2, dInt1, wCalB, dLen, isIntD, isBoolD, isStrD, isTupD, isLstD, wIsi, wLRev, wListA, dTupA, startS, wO0, wO1, dSl, wSl, wSlN, wRepN, wRepA, dIn, dGcd, dIntsL, dIntsA, wStar, wSeti, wUnDr, wSetDr, spDraw, dBest, wSetL, wLc, wAll, wAny, wYes, stpAll, stpAny, u_wipe0, u_wipe1, u_lk0, u_lk1, lkC, spTake, List.getElem?_cons_zero, List.getElem?_cons_succ, List.getElem?_nil, List.set_cons_zero, List.set_cons_succ, List.length_cons, List.length_nil, List.replicate_succ, List.replicate_zero, List.cons_append, List.nil_append, Nat.reduceAdd, Nat.reduceSub, sp_is_number])
theorem ok_is_hill (T : Txt K mg A) (B : Tbs mg base A) : FnOk P w K mg base (L2N.CX P w) 3 A.a_is_hill A.d_is_hill ["value"] (Spf K (LL A) sp_is_hill) := by
  refine fn_flat T.f_is_hill sc_is_hill (by intro cs q r h; unfold sp_is_hill at h; first | (obtain ⟨_, rfl, _⟩ := h; rfl) | (obtain ⟨_, _, rfl, _⟩ := h; rfl) | (obtain ⟨_, _, _, rfl, _⟩ := h; rfl) | (obtain ⟨_, _, _, _, rfl, _⟩ := h; rfl) | (obtain ⟨_, _, _, _, _, rfl, _⟩ := h; rfl) | (obtain ⟨_, _, _, _, _, _, rfl, _⟩ := h; rfl) | (obtain ⟨_, _, _, _, _, _, _, rfl, _⟩ := h; rfl) | (obtain ⟨_, _, _, _, _, _, _, _, rfl, _⟩ := h; rfl) | (obtain ⟨_, _, _, _, _, _, _, _, _, rfl, _⟩ := h; rfl) | (obtain ⟨_, _, _, _, _, _, _, _, _, _, rfl, _⟩ := h; rfl) | (obtain ⟨_, _, _, _, _, _, _, _, _, _, _, rfl, _⟩ := h; rfl) | (obtain ⟨_, _, _, _, _, _, _, _, _, _, _, _, rfl, _⟩ := h; rfl) | (split at h <;> first | rfl | exact h.elim)) (fun cdv hcd A' outer s H E hr tk po => ?_)
  have hco := hcd.symm.trans T.k_is_hill
  have nd := sc_is_hill.nd
  refine ⟨_, _, (fss_cons (fs_if (ft_w (fw_or (ft_not (ft_truth (fb_fe (fe_isi isi_tup T.n_isinstance bt_isinstance T.n_tuple (by decide +kernel) (fb_var 0))))) (fw_or (ft_cmp (cmd_ne hr) (fb_fe (fe_bi1 cal_len T.n_len PySem.boot_len (fb_var 0))) (fb_fe fe_int)) (fw_or1 (ft_not (ft_truth (fb_fe (fe_call (ok_is_number T B) (hr.mono (by decide)) tk rfl T.m_is_number T.f_is_number.kp T.b_is_number (fa_cons (fe_ix (fb_var 0) fe_int) (fa_cons fe_int (fa_cons (fe_glb T.g_MOST_HEIGHT) fa_nil)))))))))))
  (fss_one (fs_ret fe_bl))
  fss_nil)
 (fss_one (fs_ret (fe_andV (fe_all (k := 1) (own := [("one", 1)]) B.t_is_hill hco (.head _) nd (hr.mono (by decide)) T.n_all (by decide +kernel) (fi_seq (fe_sl (fb_var 0) fo_none (fo_some fe_int))) ⟨rfl, by decide +kernel, rfl⟩ (blkOk_by (by kernel_rfl)) (fun Ag s H C cl code fp pn hr => (by apply FGc.cast; (case h => exact (fc_name (i := 1) nd (by decide))); (case q => (try dsimp only [FLG.gbx, Cx.blk, FLH.blkH]) <;> exact rfl))) (fun Ag s H C cl code fp pn hr => (by apply FTs.cast; (case h => exact fts_nil); (case q => (try dsimp only [FLG.gbx, Cx.blk, FLH.blkH]) <;> exact rfl))) (fun Ag s H C cl code fp pn hr => (by apply FE.cast; (case h => exact (fe_call (ok_is_number T B) (hr.mono (by decide)) (takes_wf) rfl T.m_is_number T.f_is_number.kp T.b_is_number (fa_cons (fe_var 1) (fa_cons fe_int (fa_cons (fe_glb T.g_MOST_PLACE) fa_nil))))); (case q => (try dsimp only [FLG.gbx, Cx.blk, FLH.blkH]) <;> exact rfl)))) (fe_one (fe_cmp cmd_lt (fb_fe (fe_ix (fb_var 0) fe_int)) (fb_fe (fe_ix (fb_var 0) fe_int)))))))), ?_⟩
  clear hr tk po nd
  clear hcd hco
  intro cs q r h
  unfold sp_is_hill at h
  split at h
  case h_2 => exact h.elim
  rename_i d
  cases d with
  | tuple ds =>
    walk_at "wp"
    walk_at "sm"
    refine ⟨fun hl => ?_, fun hl => ?_⟩
    · obtain ⟨a, b, c, rfl⟩ : ∃ a b c, ds = [a, b, c] := by
        have : ds.length = 3 := by omega
        match ds, this with
        | [a, b, c], _ => exact ⟨a, b, c, rfl⟩
      unfold hillB at h
      dsimp only at h
      refine ⟨c, atI_nat (j := 2) rfl, FL.cond_of (fun z => ?_) fun z => ?_⟩
      · rw [z, Bool.true_and] at h
        have ec : cutL [a, b, c] none (some 2) = [a, b] := rfl
        rw [ec]
        clear ec
        refine all_by (fun d => isNum d 0 100) (fun d hd A B hA hB => ?_) ?_
        · walk_at "wp"
          exact FL.cond_of (fun z => hB z) (fun z => hA z)
        · simp only [List.all_cons, List.all_nil, Bool.and_true]
          cases e : isNum a 0 100 && isNum b 0 100 with
          | false =>
            rw [e] at h
            exact h
          | true =>
            rw [e] at h
            obtain ⟨e1, e2⟩ := Bool.and_eq_true_iff.mp e
            cases a <;> cases b <;> first | exact absurd e1 Bool.false_ne_true | exact absurd e2 Bool.false_ne_true | exact ⟨_, atI_nat (j := 0) rfl, _, atI_nat (j := 1) rfl, h⟩
      · rw [z, Bool.false_and, Bool.false_and] at h
        exact h
    · have : hillB (.tuple ds) = false := by
        unfold hillB
        split
        · rename_i e
          cases e
          exact absurd rfl hl
        · rfl
      rw [this] at h; exact h
  | _ =>
    walk_at "wp"
    walk_at "sm"
    exact h
def hillsB (d : D) : Bool := match d with
  | .tuple ds => decide (1 ≤ ds.length) && decide (ds.length ≤ 10) && ds.all hillB
  | _ => false
def sp_are_hills : Fs := fun cs q _ => match cs with
  | [.fz d] => q (.bool (hillsB d))
  | _ => False
local macro_rules | `(tactic| walk_at "wp") => `(tactic| try dsimp only [u_seq, u_next, u_drop, u_ret, u_retO, u_ifS, u_asg, u_setO, u_par, u_par3, wDead, wDeadE, wIdxC, dEqS, dNeS, wRaise, wTry, wAPx, wIsX, wCallT, wListI, sufS, wRevA, dRev, wZip, wAugi, wEnum, wSortI, u_parO, u_par3O, u_parM, wParM, wmNil, wmVal, wmNew, setAll, u_parOc, u_aug, u_for, u_app, u_fix, u_gname, l_map1, l_map0, b_nt, b_nf, c_t, c_f, wVar, wVarB, wC, wOp, dI, dI0, dAdd, wNeg, wCmpV, wCmpT, dEq, dNe, dO, isNoneD, dIsN, dNotN, wAndT, wOrT, wNotT, truOk, truD, wTruT, wNotV, wAndV, wOrV, wIf, wChain, wBoolV, wIx, wNil, wCons, wTup, wLst, wN, wANil, wACons, wADr, wCall, wCallN, wgNil, wgCons, wgTup, wgLst, wSeqI, seqD, wRng1, wRng2, wRng3, wCal, dAbs, dMax2, dMin2, dInt1, wCalB, dLen, isIntD, isBoolD, isStrD, isTupD, isLstD, wIsi, wLRev, wListA, dTupA, startS, wO0, wO1, dSl, wSl, wSlN, wRepN, wRepA, dIn, dGcd, dIntsL, dIntsA, wStar, wSeti, wUnDr, wSetDr, spDraw, dBest, wSetL, wLc, wAll, wAny, wYes, stpAll, stpAny, u_wipe0, u_wipe1, u_lk0, u_lk1, lkC, spTake, List.getElem?_cons_zero, List.getElem?_cons_succ, List.getElem?_nil, List.set_cons_zero, List.set_cons_succ, List.length_cons, List.length_nil, List.replicate_succ, List.replicate_zero, List.cons_append, List.nil_append, Nat.reduceAdd, Nat.reduceSub, sp_is_hill])
theorem ok_are_hills (T : Txt K mg A) (B : Tbs mg base A) : FnOk P w K mg base (L2N.CX P w) 5 A.a_are_hills A.d_are_hills ["value"] (Spf K (LL A) sp_are_hills) := by
  refine fn_flat T.f_are_hills sc_are_hills (by intro cs q r h; unfold sp_are_hills at h; first | (obtain ⟨_, rfl, _⟩ := h; rfl) | (obtain ⟨_, _, rfl, _⟩ := h; rfl) | (obtain ⟨_, _, _, rfl, _⟩ := h; rfl) | (obtain ⟨_, _, _, _, rfl, _⟩ := h; rfl) | (obtain ⟨_, _, _, _, _, rfl, _⟩ := h; rfl) | (obtain ⟨_, _, _, _, _, _, rfl, _⟩ := h; rfl) | (obtain ⟨_, _, _, _, _, _, _, rfl, _⟩ := h; rfl) | (obtain ⟨_, _, _, _, _, _, _, _, rfl, _⟩ := h; rfl) | (obtain ⟨_, _, _, _, _, _, _, _, _, rfl, _⟩ := h; rfl) | (obtain ⟨_, _, _, _, _, _, _, _, _, _, rfl, _⟩ := h; rfl) | (obtain ⟨_, _, _, _, _, _, _, _, _, _, _, rfl, _⟩ := h; rfl) | (obtain ⟨_, _, _, _, _, _, _, _, _, _, _, _, rfl, _⟩ := h; rfl) | (split at h <;> first | rfl | exact h.elim)) (fun cdv hcd A' outer s H E hr tk po => ?_)
  have hco := hcd.symm.trans T.k_are_hills
  have nd := sc_are_hills.nd
  refine ⟨_, _, (fss_one (fs_ret (fe_andV (fe_isi isi_tup T.n_isinstance bt_isinstance T.n_tuple (by decide +kernel) (fb_var 0)) (fe_andV (fe_chain cmd_le cmd_le fe_int (fe_bi1 cal_len T.n_len PySem.boot_len (fb_var 0)) (fe_glb T.g_MOST_HILLS)) (fe_one (fe_all (k := 3) (own := [("hill", 1)]) B.t_are_hills hco (.tail _ (.head _)) nd (hr.mono (by decide)) T.n_all (by decide +kernel) (fi_seq (fe_var 0)) ⟨rfl, by decide +kernel, rfl⟩ (blkOk_by (by kernel_rfl)) (fun Ag s H C cl code fp pn hr => (by apply FGc.cast; (case h => exact (fc_name (i := 1) nd (by decide))); (case q => (try dsimp only [FLG.gbx, Cx.blk, FLH.blkH]) <;> exact rfl))) (fun Ag s H C cl code fp pn hr => (by apply FTs.cast; (case h => exact fts_nil); (case q => (try dsimp only [FLG.gbx, Cx.blk, FLH.blkH]) <;> exact rfl))) (fun Ag s H C cl code fp pn hr => (by apply FE.cast; (case h => exact (fe_call (ok_is_hill T B) (hr.mono (by decide)) (takes_wf) rfl T.m_is_hill T.f_is_hill.kp T.b_is_hill (fa_cons (fe_var 1) fa_nil))); (case q => (try dsimp only [FLG.gbx, Cx.blk, FLH.blkH]) <;> exact rfl))))))))), ?_⟩
  clear hr tk po nd
  clear hcd hco
  intro cs q r h
  unfold sp_are_hills at h
  split at h
  case h_2 => exact h.elim
  rename_i d
  cases d with
  | tuple ds =>
    walk_at "wp"
    walk_at "sm"
    have e : hillsB (.tuple ds) = (decide (1 ≤ ds.length) && decide (ds.length ≤ 10) && ds.all hillB) := rfl
    rw [e] at h
    refine ⟨fun h1 => ⟨fun h2 => ?_, fun h2 => ?_⟩, fun h1 => ?_⟩
    · rw [decide_eq_true (show 1 ≤ ds.length by omega), decide_eq_true (show ds.length ≤ 10 by omega)] at h
      exact all_by hillB (fun d hd A B hA hB => by
        walk_at "wp"
        exact FL.cond_of (fun z => hB z) (fun z => hA z)) h
    · rw [decide_eq_false (show ¬ ds.length ≤ 10 by omega), Bool.and_false, Bool.false_and] at h
      rw [decide_eq_false h2]
      exact h
    · rw [decide_eq_false (show ¬ 1 ≤ ds.length by omega), Bool.false_and, Bool.false_and] at h
      exact h
  | _ =>
    walk_at "wp"
    walk_at "sm"
    exact h
def hF (p : Int) : D → Option D
  | .tuple [.int b, .int e, .int h] => if b ≤ p ∧ p < e then some (.int h) else none
  | _ => none
theorem hgt_max {xs : List Hl} {p m : Int} (h0 : ∀ x ∈ xs, 0 ≤ x.2.2) (h1 : m ∈ 0 :: xs.filterMap fun x => if x.1 ≤ p ∧ p < x.2.1 then some x.2.2 else none) (h2 : ∀ y ∈ 0 :: xs.filterMap fun x => if x.1 ≤ p ∧ p < x.2.1 then some x.2.2 else none, y ≤ m) : m = hgt xs p := by
  refine Int.le_antisymm ?_ (hgt_le (h2 0 List.mem_cons_self) fun x hx => ?_)
  · rcases List.mem_cons.mp h1 with rfl | h
    · exact hgt_nn _ _
    · obtain ⟨x, hx, e⟩ := List.mem_filterMap.mp h
      split at e
      · rename_i q
        cases e
        have := hgt_ge (p := p) hx
        unfold cov at this
        rwa [if_pos q] at this
      · cases e
  · unfold cov
    split
    · rename_i q
      exact h2 _ (List.mem_cons_of_mem _ (List.mem_filterMap.mpr ⟨x, hx, if_pos q⟩))
    · exact h2 0 List.mem_cons_self
def sp_height_at : Fs := fun cs q _ => ∃ (xs : List Hl) (p : Int), cs = [.fz (hsD xs), .fz (.int p)] ∧ (xs.length ≤ 20 ∧ ∀ x ∈ xs, 0 ≤ x.2.2) ∧ q (.int (hgt xs p))
theorem ok_height_at (T : Txt K mg A) (B : Tbs mg base A) : FnOk P w K mg base (L2N.CX P w) 1 A.a_height_at A.d_height_at ["hills", "place"] (Spf K (LL A) sp_height_at) := by
  refine fn_flat T.f_height_at sc_height_at (by intro cs q r h; unfold sp_height_at at h; first | (obtain ⟨_, rfl, _⟩ := h; rfl) | (obtain ⟨_, _, rfl, _⟩ := h; rfl) | (obtain ⟨_, _, _, rfl, _⟩ := h; rfl) | (obtain ⟨_, _, _, _, rfl, _⟩ := h; rfl) | (obtain ⟨_, _, _, _, _, rfl, _⟩ := h; rfl) | (obtain ⟨_, _, _, _, _, _, rfl, _⟩ := h; rfl) | (obtain ⟨_, _, _, _, _, _, _, rfl, _⟩ := h; rfl) | (obtain ⟨_, _, _, _, _, _, _, _, rfl, _⟩ := h; rfl) | (obtain ⟨_, _, _, _, _, _, _, _, _, rfl, _⟩ := h; rfl) | (obtain ⟨_, _, _, _, _, _, _, _, _, _, rfl, _⟩ := h; rfl) | (obtain ⟨_, _, _, _, _, _, _, _, _, _, _, rfl, _⟩ := h; rfl) | (obtain ⟨_, _, _, _, _, _, _, _, _, _, _, _, rfl, _⟩ := h; rfl) | (split at h <;> first | rfl | exact h.elim)) (fun cdv hcd A' outer s H E hr tk po => ?_)
  have nd := sc_height_at.nd
  refine ⟨_, _, (fss_one (fs_ret (fe_bi1 (cal_maxT hr) T.n_max (by decide +kernel) (fb_fe (fe_add (fe_n (fn_lst (fl_cons fe_int fl_nil))) (fe_n (fn_lc (own := [("begin", 2), ("end", 3), ("height", 4)]) rfl nd (fi_seq (fe_var 0)) (blkOk_by (by kernel_rfl)) (fun s H C cl fp => (by apply FGc.cast; (case h => exact (fc_tup (n := 3) rfl (fcs_cons (fc_name (i := 2) nd (by decide)) (fcs_cons (fc_name (i := 3) nd (by decide)) (fcs_cons (fc_name (i := 4) nd (by decide)) fcs_nil))))); (case q => (try dsimp only [FLG.gbx, Cx.blk, FLH.blkH]) <;> exact rfl))) (fun s H C cl fp => (by apply FTs.cast; (case h => exact (fts_one (ft_chain cmd_le cmd_lt (fe_var 2) (fe_var 1) (fe_var 3)))); (case q => (try dsimp only [FLG.gbx, Cx.blk, FLH.blkH]) <;> exact rfl))) (fun s H C cl fp => (by apply FE.cast; (case h => exact (fe_var 4)); (case q => (try dsimp only [FLG.gbx, Cx.blk, FLH.blkH]) <;> exact rfl)))))))))), ?_⟩
  clear hr tk po nd
  clear hcd
  rintro cs q r ⟨xs, p, rfl, ⟨hl, h0⟩, h⟩
  unfold hsD
  walk_at "wp"
  repeat refine ⟨by decide, ?_⟩
  refine lc_fm (hF p) (by rw [List.length_map]; exact Nat.le_trans hl (by decide)) (fun d hd acc J h1 h2 => ?_) ?_
  · obtain ⟨x, hx, rfl⟩ := List.mem_map.mp hd
    have e : hF p (hD x) = if x.1 ≤ p ∧ p < x.2.1 then some (.int x.2.2) else none := rfl
    rw [e] at h1 h2
    unfold hD
    walk_at "wp"
    refine ⟨rfl, rfl, FL.cond_of (fun a => FL.cond_of (fun b => ?_) fun b => ?_) fun a => ?_⟩
    · have q := And.intro (of_decide_eq_true a) (of_decide_eq_true b)
      rw [if_pos q] at h2
      exact h2 _ rfl
    · rw [if_neg (fun z => of_decide_eq_false b z.2)] at h1
      exact h1 rfl
    · rw [if_neg (fun z => of_decide_eq_false a z.1)] at h1
      exact h1 rfl
  · have e : (xs.map hD).filterMap (hF p) = (xs.filterMap fun x => if x.1 ≤ p ∧ p < x.2.1 then some x.2.2 else none).map .int := by
      rw [List.filterMap_map, List.map_filterMap]
      congr 1
      funext x
      show (if x.1 ≤ p ∧ p < x.2.1 then some (PyData.int x.2.2) else none) = Option.map PyData.int (if x.1 ≤ p ∧ p < x.2.1 then some x.2.2 else none)
      split <;> rfl
    have l : (xs.filterMap fun x => if x.1 ≤ p ∧ p < x.2.1 then some x.2.2 else none).length ≤ 20 := Nat.le_trans (List.length_filterMap_le _ _) hl
    rw [e, List.length_map]
    refine ⟨Nat.le_trans (show _ ≤ 21 by omega) (by decide), 0 :: (xs.filterMap fun x => if x.1 ≤ p ∧ p < x.2.1 then some x.2.2 else none), rfl, Nat.succ_pos _, fun m m1 m2 => ?_⟩
    rw [hgt_max h0 m1 m2]
    exact h
def prI (x : Int × Int) : D := .tuple [.int x.1, .int x.2]
def chD (l : List (Int × Int)) : D := .tuple (l.map prI)
def sp_horizon : Fs := fun cs q _ => ∃ xs : List Hl, cs = [.fz (hsD xs)] ∧ (HOk xs ∧ xs.length ≤ 11) ∧ q (chD (CH (hgt xs) 102))
local macro_rules | `(tactic| walk_at "wp") => `(tactic| try dsimp only [u_seq, u_next, u_drop, u_ret, u_retO, u_ifS, u_asg, u_setO, u_par, u_par3, wDead, wDeadE, wIdxC, dEqS, dNeS, wRaise, wTry, wAPx, wIsX, wCallT, wListI, sufS, wRevA, dRev, wZip, wAugi, wEnum, wSortI, u_parO, u_par3O, u_parM, wParM, wmNil, wmVal, wmNew, setAll, u_parOc, u_aug, u_for, u_app, u_fix, u_gname, l_map1, l_map0, b_nt, b_nf, c_t, c_f, wVar, wVarB, wC, wOp, dI, dI0, dAdd, wNeg, wCmpV, wCmpT, dEq, dNe, dO, isNoneD, dIsN, dNotN, wAndT, wOrT, wNotT, truOk, truD, wTruT, wNotV, wAndV, wOrV, wIf, wChain, wBoolV, wIx, wNil, wCons, wTup, wLst, wN, wANil, wACons, wADr, wCall, wCallN, wgNil, wgCons, wgTup, wgLst, wSeqI, seqD, wRng1, wRng2, wRng3, wCal, dAbs, dMax2, dMin2, dInt1, wCalB, dLen, isIntD, isBoolD, isStrD, isTupD, isLstD, wIsi, wLRev, wListA, dTupA, startS, wO0, wO1, dSl, wSl, wSlN, wRepN, wRepA, dIn, dGcd, dIntsL, dIntsA, wStar, wSeti, wUnDr, wSetDr, spDraw, dBest, wSetL, wLc, wAll, wAny, wYes, stpAll, stpAny, u_wipe0, u_wipe1, u_lk0, u_lk1, lkC, spTake, List.getElem?_cons_zero, List.getElem?_cons_succ, List.getElem?_nil, List.set_cons_zero, List.set_cons_succ, List.length_cons, List.length_nil, List.replicate_succ, List.replicate_zero, List.cons_append, List.nil_append, Nat.reduceAdd, Nat.reduceSub, sp_height_at])
theorem ok_horizon (T : Txt K mg A) (B : Tbs mg base A) : FnOk P w K mg base (L2N.CX P w) 2 A.a_horizon A.d_horizon ["hills"] (Spf K (LL A) sp_horizon) := by
  refine fn_flat T.f_horizon sc_horizon (by intro cs q r h; unfold sp_horizon at h; first | (obtain ⟨_, rfl, _⟩ := h; rfl) | (obtain ⟨_, _, rfl, _⟩ := h; rfl) | (obtain ⟨_, _, _, rfl, _⟩ := h; rfl) | (obtain ⟨_, _, _, _, rfl, _⟩ := h; rfl) | (obtain ⟨_, _, _, _, _, rfl, _⟩ := h; rfl) | (obtain ⟨_, _, _, _, _, _, rfl, _⟩ := h; rfl) | (obtain ⟨_, _, _, _, _, _, _, rfl, _⟩ := h; rfl) | (obtain ⟨_, _, _, _, _, _, _, _, rfl, _⟩ := h; rfl) | (obtain ⟨_, _, _, _, _, _, _, _, _, rfl, _⟩ := h; rfl) | (obtain ⟨_, _, _, _, _, _, _, _, _, _, rfl, _⟩ := h; rfl) | (obtain ⟨_, _, _, _, _, _, _, _, _, _, _, rfl, _⟩ := h; rfl) | (obtain ⟨_, _, _, _, _, _, _, _, _, _, _, _, rfl, _⟩ := h; rfl) | (split at h <;> first | rfl | exact h.elim)) (fun cdv hcd A' outer s H E hr tk po => ?_)
  have nd := sc_horizon.nd
  refine ⟨_, _, (fss_cons (fs_set (i := 1) nd (fe_n (fn_sortI T.n_sorted (fb_fe (fe_add (fe_n (fn_lc (own := [("begin", 5), ("_", 6)]) rfl nd (fi_seq (fe_var 0)) (blkOk_by (by kernel_rfl)) (fun s H C cl fp => (by apply FGc.cast; (case h => exact (fc_tup (n := 3) rfl (fcs_cons (fc_name (i := 5) nd (by decide)) (fcs_cons (fc_name (i := 6) nd (by decide)) (fcs_cons (fc_name (i := 6) nd (by decide)) fcs_nil))))); (case q => (try dsimp only [FLG.gbx, Cx.blk, FLH.blkH]) <;> exact rfl))) (fun s H C cl fp => (by apply FTs.cast; (case h => exact fts_nil); (case q => (try dsimp only [FLG.gbx, Cx.blk, FLH.blkH]) <;> exact rfl))) (fun s H C cl fp => (by apply FE.cast; (case h => exact (fe_var 5)); (case q => (try dsimp only [FLG.gbx, Cx.blk, FLH.blkH]) <;> exact rfl))))) (fe_n (fn_lc (own := [("_", 6), ("end", 7)]) rfl nd (fi_seq (fe_var 0)) (blkOk_by (by kernel_rfl)) (fun s H C cl fp => (by apply FGc.cast; (case h => exact (fc_tup (n := 3) rfl (fcs_cons (fc_name (i := 6) nd (by decide)) (fcs_cons (fc_name (i := 7) nd (by decide)) (fcs_cons (fc_name (i := 6) nd (by decide)) fcs_nil))))); (case q => (try dsimp only [FLG.gbx, Cx.blk, FLH.blkH]) <;> exact rfl))) (fun s H C cl fp => (by apply FTs.cast; (case h => exact fts_nil); (case q => (try dsimp only [FLG.gbx, Cx.blk, FLH.blkH]) <;> exact rfl))) (fun s H C cl fp => (by apply FE.cast; (case h => exact (fe_var 7)); (case q => (try dsimp only [FLG.gbx, Cx.blk, FLH.blkH]) <;> exact rfl))))))))))
 (fss_cons (fs_own (i := 2) nd (fn_lst fl_nil))
 (fss_cons (fs_for po rfl (fi_seq (fe_var 1)) (fg_name (i := 3) nd)
  (fss_cons (fs_set (i := 4) nd (fe_call (ok_height_at T B) (hr.mono (by decide)) tk rfl T.m_height_at T.f_height_at.kp T.b_height_at (fa_cons (fe_var 0) (fa_cons (fe_var 3) fa_nil))))
 (fss_one (fs_if (ft_cmp (cmd_ne hr) (fb_var 4) (fb_fe (fe_if (ft_cmp cmd_gt (fb_fe (fe_bi1 cal_len T.n_len PySem.boot_len (fb_var 2))) (fb_fe fe_int)) (fe_ix (fb_fe (fe_ix (fb_var 2) (fe_neg fe_int))) fe_int) fe_int)))
  (fss_one (fs_app 2 (fe_tup (fl_cons (fe_var 3) (fl_cons (fe_var 4) fl_nil)))))
  fss_nil))))
 (fss_one (fs_ret (fe_ty1 cal_tuple T.n_tuple (by decide +kernel) (fb_var 2))))))), ?_⟩
  clear hr tk po nd
  clear hcd
  rintro cs q r ⟨xs, rfl, ⟨ok, hl⟩, h⟩
  have h0 : ∀ x ∈ xs, 0 ≤ x.2.2 := fun x hx => by have := ok x hx; omega
  have len : (xs.map hD).length ≤ sizeLine := by rw [List.length_map]; exact Nat.le_trans hl (by decide)
  unfold hsD
  walk_at "wp"
  refine lc_map (fun d => match d with | .tuple [a, b, c] => a | d => d) len (fun d hd acc J hJ => ?_) ?_
  · obtain ⟨x, hx, rfl⟩ := List.mem_map.mp hd
    unfold hD at hJ ⊢
    walk_at "wp"
    exact ⟨rfl, rfl, hJ⟩
  refine lc_map (fun d => match d with | .tuple [a, b, c] => b | d => d) len (fun d hd acc J hJ => ?_) ?_
  · obtain ⟨x, hx, rfl⟩ := List.mem_map.mp hd
    unfold hD at hJ ⊢
    walk_at "wp"
    exact ⟨rfl, rfl, hJ⟩
  rw [List.map_map, List.map_map, List.length_map, List.length_map]
  refine ⟨Nat.le_trans (show _ ≤ 22 by omega) (by decide), pts xs, ?_, ?_, fun ms hp hs => ⟨by decide, ?_⟩⟩
  · unfold pts
    rw [List.map_append, List.map_map, List.map_map]
    rfl
  · unfold pts
    rw [List.length_append, List.length_map, List.length_map]
    omega
  have lm : ms.length ≤ 22 := by
    rw [hp.length_eq]
    unfold pts
    rw [List.length_append, List.length_map, List.length_map]
    omega
  refine ⟨fun i s' => ∃ (acc : List (Int × Int)) (x3 x4 : Cel), (wk (hgt xs) ms [] = wk (hgt xs) (ms.drop i) acc ∧ acc.length ≤ i) ∧ s' = [.fz (.tuple (xs.map hD)), .fz (.list (ms.map .int)), .ow (acc.map prI), x3, x4, .no, .no, .no], ⟨[], _, _, ⟨rfl, Nat.le_refl _⟩, rfl⟩, ?_, ?_⟩
  · rintro i d s' e ⟨acc, x3, x4, ⟨ew, el⟩, rfl⟩
    rw [List.getElem?_map] at e
    cases en : ms[i]? with
    | none => rw [en] at e; cases e
    | some p =>
      rw [en] at e
      cases e
      obtain ⟨hi, ep⟩ := List.getElem?_eq_some_iff.mp en
      rw [List.drop_eq_getElem_cons hi, ep, wk] at ew
      walk_at "wp"
      refine ⟨xs, p, rfl, ⟨by omega, h0⟩, ?_⟩
      have fin : ∀ (v : D) (E : Sl → Prop), v = .int (lastV acc) → (∀ acc' x3 x4, (wk (hgt xs) ms [] = wk (hgt xs) (ms.drop (i + 1)) acc' ∧ acc'.length ≤ i + 1) → E [.fz (.tuple (xs.map hD)), .fz (.list (ms.map .int)), .ow (acc'.map prI), x3, x4, .no, .no, .no]) → EqOk (.int (hgt xs p)) v ∧ cond (!PyData.eqv (.int (hgt xs p)) v) (2 ≤ sizeLine ∧ (acc.map prI).length < sizeLine ∧ E [.fz (.tuple (xs.map hD)), .fz (.list (ms.map .int)), .ow (acc.map prI ++ [.tuple [.int p, .int (hgt xs p)]]), .fz (.int p), .fz (.int (hgt xs p)), .no, .no, .no]) (E [.fz (.tuple (xs.map hD)), .fz (.list (ms.map .int)), .ow (acc.map prI), .fz (.int p), .fz (.int (hgt xs p)), .no, .no, .no]) := by
        rintro v E rfl hE
        refine ⟨.inl rfl, ?_⟩
        rw [ev_ii, FL.cond_not]
        refine FL.cond_of (fun z => ?_) (fun z => ?_)
        · rw [if_neg (Classical.not_not.mpr (of_decide_eq_true z))] at ew
          exact hE _ _ _ ⟨ew, by omega⟩
        · rw [if_pos (of_decide_eq_false z)] at ew
          refine ⟨by decide, by rw [List.length_map]; exact Nat.lt_of_le_of_lt (show _ ≤ 22 by omega) (by decide), ?_⟩
          have := hE _ (.fz (.int p)) (.fz (.int (hgt xs p))) ⟨ew, by rw [List.length_append, List.length_singleton]; omega⟩
          rw [List.map_append] at this
          exact this
      have fin2 := fun v hv => fin v (fun s => ∃ (acc : List (Int × Int)) (x3 x4 : Cel), (wk (hgt xs) ms [] = wk (hgt xs) (ms.drop (i + 1)) acc ∧ acc.length ≤ i + 1) ∧ s = [.fz (.tuple (xs.map hD)), .fz (.list (ms.map .int)), .ow (acc.map prI), x3, x4, .no, .no, .no]) hv fun acc' x3 x4 hh => ⟨acc', x3, x4, hh, rfl⟩
      clear fin
      cases eacc : acc.getLast? with
      | none =>
        have : acc = [] := List.getLast?_eq_none_iff.mp eacc
        subst this
        exact FL.cond_f rfl (fin2 _ rfl)
      | some x =>
        refine FL.cond_t ?_ (ix_last (d := prI x) (by rw [List.getLast?_map, eacc]; rfl) ⟨_, atI_nat (j := 1) rfl, fin2 _ ?_⟩)
        · cases acc with
          | nil => cases eacc
          | cons y ys => simp
        · unfold lastV
          rw [eacc]
  · rintro s' ⟨acc, x3, x4, ⟨ew, el⟩, rfl⟩
    rw [List.length_map, List.drop_length, wk, wk_hills ok hp hs] at ew
    walk_at "wp"
    rw [← ew]
    exact h
def sp_seen : Fs := fun cs q _ => ∃ xs : List Hl, cs = [.fz (hsD xs)] ∧ (HOk xs ∧ xs.length ≤ 11) ∧ q (.tuple (natsD (seenL xs)))
local macro_rules | `(tactic| walk_at "wp") => `(tactic| try dsimp only [u_seq, u_next, u_drop, u_ret, u_retO, u_ifS, u_asg, u_setO, u_par, u_par3, wDead, wDeadE, wIdxC, dEqS, dNeS, wRaise, wTry, wAPx, wIsX, wCallT, wListI, sufS, wRevA, dRev, wZip, wAugi, wEnum, wSortI, u_parO, u_par3O, u_parM, wParM, wmNil, wmVal, wmNew, setAll, u_parOc, u_aug, u_for, u_app, u_fix, u_gname, l_map1, l_map0, b_nt, b_nf, c_t, c_f, wVar, wVarB, wC, wOp, dI, dI0, dAdd, wNeg, wCmpV, wCmpT, dEq, dNe, dO, isNoneD, dIsN, dNotN, wAndT, wOrT, wNotT, truOk, truD, wTruT, wNotV, wAndV, wOrV, wIf, wChain, wBoolV, wIx, wNil, wCons, wTup, wLst, wN, wANil, wACons, wADr, wCall, wCallN, wgNil, wgCons, wgTup, wgLst, wSeqI, seqD, wRng1, wRng2, wRng3, wCal, dAbs, dMax2, dMin2, dInt1, wCalB, dLen, isIntD, isBoolD, isStrD, isTupD, isLstD, wIsi, wLRev, wListA, dTupA, startS, wO0, wO1, dSl, wSl, wSlN, wRepN, wRepA, dIn, dGcd, dIntsL, dIntsA, wStar, wSeti, wUnDr, wSetDr, spDraw, dBest, wSetL, wLc, wAll, wAny, wYes, stpAll, stpAny, u_wipe0, u_wipe1, u_lk0, u_lk1, lkC, spTake, List.getElem?_cons_zero, List.getElem?_cons_succ, List.getElem?_nil, List.set_cons_zero, List.set_cons_succ, List.length_cons, List.length_nil, List.replicate_succ, List.replicate_zero, List.cons_append, List.nil_append, Nat.reduceAdd, Nat.reduceSub, sp_height_at])
theorem ok_seen (T : Txt K mg A) (B : Tbs mg base A) : FnOk P w K mg base (L2N.CX P w) 3 A.a_seen A.d_seen ["hills"] (Spf K (LL A) sp_seen) := by
  refine fn_flat T.f_seen sc_seen (by intro cs q r h; unfold sp_seen at h; first | (obtain ⟨_, rfl, _⟩ := h; rfl) | (obtain ⟨_, _, rfl, _⟩ := h; rfl) | (obtain ⟨_, _, _, rfl, _⟩ := h; rfl) | (obtain ⟨_, _, _, _, rfl, _⟩ := h; rfl) | (obtain ⟨_, _, _, _, _, rfl, _⟩ := h; rfl) | (obtain ⟨_, _, _, _, _, _, rfl, _⟩ := h; rfl) | (obtain ⟨_, _, _, _, _, _, _, rfl, _⟩ := h; rfl) | (obtain ⟨_, _, _, _, _, _, _, _, rfl, _⟩ := h; rfl) | (obtain ⟨_, _, _, _, _, _, _, _, _, rfl, _⟩ := h; rfl) | (obtain ⟨_, _, _, _, _, _, _, _, _, _, rfl, _⟩ := h; rfl) | (obtain ⟨_, _, _, _, _, _, _, _, _, _, _, rfl, _⟩ := h; rfl) | (obtain ⟨_, _, _, _, _, _, _, _, _, _, _, _, rfl, _⟩ := h; rfl) | (split at h <;> first | rfl | exact h.elim)) (fun cdv hcd A' outer s H E hr tk po => ?_)
  have hco := hcd.symm.trans T.k_seen
  have nd := sc_seen.nd
  refine ⟨_, _, (fss_cons (fs_own (i := 1) nd (fn_lst fl_nil))
 (fss_cons (fs_for po rfl (fi_enum T.n_enumerate (fl_cons (fe_var 0) fl_nil)) (fg_tup (n := 2) rfl (fgs_cons (fg_name (i := 2) nd) (fgs_cons (fg_tup (n := 3) rfl (fgs_cons (fg_name (i := 4) nd) (fgs_cons (fg_name (i := 5) nd) (fgs_cons (fg_name (i := 6) nd) fgs_nil)))) fgs_nil)))
  (fss_cons (fs_set (i := 3) nd (fe_tup (fl_star (fe_sl (fb_var 0) fo_none (fo_some (fe_var 2))) (fl_star (fe_sl (fb_var 0) (fo_some (fe_add (fe_var 2) fe_int)) fo_none) fl_nil))))
 (fss_one (fs_if (ft_truth (fb_fe (fe_any (k := 1) (own := [("place", 7)]) B.t_seen hco (.tail _ (.tail _ (.head _))) nd (hr.mono (by decide)) T.n_any (by decide +kernel) (fi_rng2 T.n_range (fl_cons (fe_var 4) (fl_cons (fe_var 5) fl_nil))) ⟨rfl, by decide +kernel, rfl⟩ (blkOk_by (by kernel_rfl)) (fun Ag s H C cl code fp pn hr => (by apply FGc.cast; (case h => exact (fc_name (i := 7) nd (by decide))); (case q => (try dsimp only [FLG.gbx, Cx.blk, FLH.blkH]) <;> exact rfl))) (fun Ag s H C cl code fp pn hr => (by apply FTs.cast; (case h => exact fts_nil); (case q => (try dsimp only [FLG.gbx, Cx.blk, FLH.blkH]) <;> exact rfl))) (fun Ag s H C cl code fp pn hr => (by apply FE.cast; (case h => exact (fe_cmp cmd_lt (fb_fe (fe_call (ok_height_at T B) (hr.mono (by decide)) (takes_wf) rfl T.m_height_at T.f_height_at.kp T.b_height_at (fa_cons (fe_var 3) (fa_cons (fe_var 7) fa_nil)))) (fb_var 6))); (case q => (try dsimp only [FLG.gbx, Cx.blk, FLH.blkH]) <;> exact rfl))))))
  (fss_one (fs_app 1 (fe_var 2)))
  fss_nil))))
 (fss_one (fs_ret (fe_ty1 cal_tuple T.n_tuple (by decide +kernel) (fb_var 1)))))), ?_⟩
  clear hr tk po nd
  clear hcd hco
  rintro cs q r ⟨xs, rfl, ⟨ok, hl⟩, h⟩
  unfold hsD
  walk_at "wp"
  have lx : (enumD (xs.map hD)).length = xs.length := by rw [enum_len, List.length_map]
  refine ⟨by decide, fun i s' => ∃ x2 x3 x4 x5 x6 : Cel, s' = [.fz (.tuple (xs.map hD)), .ow (natsD ((List.range i).filter (vis xs))), x2, x3, x4, x5, x6, .no], ⟨_, _, _, _, _, rfl⟩, ?_, ?_⟩
  · rintro i d s' e ⟨x2, x3, x4, x5, x6, rfl⟩
    have hi : i < xs.length := by rw [← lx]; exact (List.getElem?_eq_some_iff.mp e).1
    obtain ⟨x, ex⟩ : ∃ x, xs[i]? = some x := ⟨_, List.getElem?_eq_getElem hi⟩
    have ed : (enumD (xs.map hD))[i]? = some (prT (.int i) (hD x)) := by
      unfold enumD
      rw [List.getElem?_zipWith, List.getElem?_range (by rw [List.length_map]; exact hi), List.getElem?_map, ex]
      rfl
    rw [e] at ed
    cases ed
    unfold prT
    rw [show hD x = .tuple [.int x.1, .int x.2.1, .int x.2.2] from rfl]
    walk_at "wp"
    have okx := ok x (List.mem_of_getElem? ex)
    have e1 : cutL (xs.map hD) none (some (i : Int)) ++ (cutL (xs.map hD) (some ((i : Int) + 1)) none ++ []) = (cutAt xs i).map hD := by
      rw [List.append_nil, cut_take, show ((i : Int) + 1) = ((i + 1 : Nat) : Int) by omega, cut_drop, ← List.map_take, ← List.map_drop, ← List.map_append]
      rfl
    have lc := cut_length hi
    rw [e1, List.length_map]
    have ev : (List.range (i + 1)).filter (vis xs) = (List.range i).filter (vis xs) ++ if vis xs i then [i] else [] := by
      rw [List.range_succ, List.filter_append]
      congr 1
      simp [List.filter_cons]
    refine ⟨rfl, rfl, rfl, rfl, Nat.le_trans (show _ ≤ 11 by omega) (by decide), ⟨by omega, by omega⟩, ⟨by omega, by omega⟩, ?_⟩
    refine any_by (fun d => match d with | .int p => decide (hgt (cutAt xs i) p < x.2.2) | _ => false) (fun d hd A B hA hB => ?_) ?_
    · obtain ⟨k, hk⟩ := List.getElem?_of_mem hd
      obtain ⟨rfl, hk⟩ := rng_get hk
      walk_at "wp"
      refine ⟨cutAt xs i, _, rfl, ⟨by omega, fun y hy => by have := cut_ok ok i y hy; omega⟩, FL.cond_of (fun z => hA z) fun z => hB z⟩
    · have ea : ((rngD x.1 (x.2.1 - x.1).toNat).any fun d => match d with | .int p => decide (hgt (cutAt xs i) p < x.2.2) | _ => false) = vis xs i := by
        unfold vis rngD
        rw [ex, List.any_map]
        rfl
      rw [ea]
      refine ⟨trivial, FL.cond_of (fun z => ?_) fun z => ?_⟩
      · rw [if_pos z] at ev
        refine ⟨?_, .fz (.int i), .fz (.tuple ((cutAt xs i).map hD)), .fz (.int x.1), .fz (.int x.2.1), .fz (.int x.2.2), ?_⟩
        · unfold natsD
          rw [List.length_map]
          exact Nat.lt_of_le_of_lt (Nat.le_trans (List.length_filter_le _ _) (by rw [List.length_range]; omega)) (show 11 < sizeLine by decide)
        · rw [ev]
          unfold natsD
          rw [List.map_append]
          rfl
      · rw [if_neg (by rw [z]; decide), List.append_nil] at ev
        exact ⟨.fz (.int i), .fz (.tuple ((cutAt xs i).map hD)), .fz (.int x.1), .fz (.int x.2.1), .fz (.int x.2.2), by rw [ev]⟩
  · rintro s' ⟨x2, x3, x4, x5, x6, rfl⟩
    rw [lx]
    walk_at "wp"
    exact h
def sp_hidden : Fs := fun cs q _ => ∃ xs : List Hl, cs = [.fz (hsD xs)] ∧ (HOk xs ∧ xs.length ≤ 11) ∧ q (.int (Sm (hgt xs) 100))
local macro_rules | `(tactic| walk_at "wp") => `(tactic| try dsimp only [u_seq, u_next, u_drop, u_ret, u_retO, u_ifS, u_asg, u_setO, u_par, u_par3, wDead, wDeadE, wIdxC, dEqS, dNeS, wRaise, wTry, wAPx, wIsX, wCallT, wListI, sufS, wRevA, dRev, wZip, wAugi, wEnum, wSortI, u_parO, u_par3O, u_parM, wParM, wmNil, wmVal, wmNew, setAll, u_parOc, u_aug, u_for, u_app, u_fix, u_gname, l_map1, l_map0, b_nt, b_nf, c_t, c_f, wVar, wVarB, wC, wOp, dI, dI0, dAdd, wNeg, wCmpV, wCmpT, dEq, dNe, dO, isNoneD, dIsN, dNotN, wAndT, wOrT, wNotT, truOk, truD, wTruT, wNotV, wAndV, wOrV, wIf, wChain, wBoolV, wIx, wNil, wCons, wTup, wLst, wN, wANil, wACons, wADr, wCall, wCallN, wgNil, wgCons, wgTup, wgLst, wSeqI, seqD, wRng1, wRng2, wRng3, wCal, dAbs, dMax2, dMin2, dInt1, wCalB, dLen, isIntD, isBoolD, isStrD, isTupD, isLstD, wIsi, wLRev, wListA, dTupA, startS, wO0, wO1, dSl, wSl, wSlN, wRepN, wRepA, dIn, dGcd, dIntsL, dIntsA, wStar, wSeti, wUnDr, wSetDr, spDraw, dBest, wSetL, wLc, wAll, wAny, wYes, stpAll, stpAny, u_wipe0, u_wipe1, u_lk0, u_lk1, lkC, spTake, List.getElem?_cons_zero, List.getElem?_cons_succ, List.getElem?_nil, List.set_cons_zero, List.set_cons_succ, List.length_cons, List.length_nil, List.replicate_succ, List.replicate_zero, List.cons_append, List.nil_append, Nat.reduceAdd, Nat.reduceSub, sp_height_at])
theorem ok_hidden (T : Txt K mg A) (B : Tbs mg base A) : FnOk P w K mg base (L2N.CX P w) 2 A.a_hidden A.d_hidden ["hills"] (Spf K (LL A) sp_hidden) := by
  refine fn_flat T.f_hidden sc_hidden (by intro cs q r h; unfold sp_hidden at h; first | (obtain ⟨_, rfl, _⟩ := h; rfl) | (obtain ⟨_, _, rfl, _⟩ := h; rfl) | (obtain ⟨_, _, _, rfl, _⟩ := h; rfl) | (obtain ⟨_, _, _, _, rfl, _⟩ := h; rfl) | (obtain ⟨_, _, _, _, _, rfl, _⟩ := h; rfl) | (obtain ⟨_, _, _, _, _, _, rfl, _⟩ := h; rfl) | (obtain ⟨_, _, _, _, _, _, _, rfl, _⟩ := h; rfl) | (obtain ⟨_, _, _, _, _, _, _, _, rfl, _⟩ := h; rfl) | (obtain ⟨_, _, _, _, _, _, _, _, _, rfl, _⟩ := h; rfl) | (obtain ⟨_, _, _, _, _, _, _, _, _, _, rfl, _⟩ := h; rfl) | (obtain ⟨_, _, _, _, _, _, _, _, _, _, _, rfl, _⟩ := h; rfl) | (obtain ⟨_, _, _, _, _, _, _, _, _, _, _, _, rfl, _⟩ := h; rfl) | (split at h <;> first | rfl | exact h.elim)) (fun cdv hcd A' outer s H E hr tk po => ?_)
  have nd := sc_hidden.nd
  refine ⟨_, _, (fss_one (fs_ret (fe_bi1 cal_sumA T.n_sum (by decide +kernel) (fb_fe (fe_n (fn_lc (own := [("place", 1)]) rfl nd (fi_rng1 T.n_range (fl_cons (fe_glb T.g_MOST_PLACE) fl_nil)) (blkOk_by (by kernel_rfl)) (fun s H C cl fp => (by apply FGc.cast; (case h => exact (fc_name (i := 1) nd (by decide))); (case q => (try dsimp only [FLG.gbx, Cx.blk, FLH.blkH]) <;> exact rfl))) (fun s H C cl fp => (by apply FTs.cast; (case h => exact fts_nil); (case q => (try dsimp only [FLG.gbx, Cx.blk, FLH.blkH]) <;> exact rfl))) (fun s H C cl fp => (by apply FE.cast; (case h => exact (fe_call (ok_height_at T B) (hr.mono (by decide)) (takes_wf) rfl T.m_height_at T.f_height_at.kp T.b_height_at (fa_cons (fe_var 0) (fa_cons (fe_var 1) fa_nil)))); (case q => (try dsimp only [FLG.gbx, Cx.blk, FLH.blkH]) <;> exact rfl))))))))), ?_⟩
  clear hr tk po nd
  clear hcd
  rintro cs q r ⟨xs, rfl, ⟨ok, hl⟩, h⟩
  have h0 : ∀ x ∈ xs, 0 ≤ x.2.2 := fun x hx => by have := ok x hx; omega
  walk_at "wp"
  refine ⟨⟨by decide, by decide⟩, lc_map (fun d => match d with | .int p => .int (hgt xs p) | d => d) (by decide) (fun d hd acc J hJ => ?_) ?_⟩
  · obtain ⟨k, _, rfl⟩ := mem_rng hd
    walk_at "wp"
    exact ⟨xs, _, rfl, ⟨by omega, h0⟩, hJ⟩
  · refine ⟨(List.range 100).map fun p : Nat => hgt xs p, ?_, h⟩
    unfold rngD
    rw [List.map_map, List.map_map]
    refine List.map_congr_left fun k _ => ?_
    show PyData.int (hgt xs (0 + (k : Int))) = PyData.int (hgt xs (k : Int))
    rw [Int.zero_add]
def sp__law_says : Fs := fun cs q _ => match cs with
  | [.fz (.bool x), .fz (.bool b)] => q (.bool (decide (x = b)))
  | _ => False
theorem ok__law_says (T : Txt K mg A) (B : Tbs mg base A) : FnOk P w K mg base (L2N.CX P w) 1 A.a__law_says A.d__law_says ["told", "due"] (Spf K (LL A) sp__law_says) := by
  refine fn_flat T.f__law_says sc__law_says (by intro cs q r h; unfold sp__law_says at h; first | (obtain ⟨_, rfl, _⟩ := h; rfl) | (obtain ⟨_, _, rfl, _⟩ := h; rfl) | (obtain ⟨_, _, _, rfl, _⟩ := h; rfl) | (obtain ⟨_, _, _, _, rfl, _⟩ := h; rfl) | (obtain ⟨_, _, _, _, _, rfl, _⟩ := h; rfl) | (obtain ⟨_, _, _, _, _, _, rfl, _⟩ := h; rfl) | (obtain ⟨_, _, _, _, _, _, _, rfl, _⟩ := h; rfl) | (obtain ⟨_, _, _, _, _, _, _, _, rfl, _⟩ := h; rfl) | (obtain ⟨_, _, _, _, _, _, _, _, _, rfl, _⟩ := h; rfl) | (obtain ⟨_, _, _, _, _, _, _, _, _, _, rfl, _⟩ := h; rfl) | (obtain ⟨_, _, _, _, _, _, _, _, _, _, _, rfl, _⟩ := h; rfl) | (obtain ⟨_, _, _, _, _, _, _, _, _, _, _, _, rfl, _⟩ := h; rfl) | (split at h <;> first | rfl | exact h.elim)) (fun cdv hcd A' outer s H E hr tk po => ?_)
  have nd := sc__law_says.nd
  refine ⟨_, _, (fss_one (fs_ret (fe_andV (fe_isi isi_bool T.n_isinstance bt_isinstance T.n_bool (by decide +kernel) (fb_var 0)) (fe_one (fe_cmp (cmd_eq hr) (fb_var 0) (fb_var 1)))))), ?_⟩
  clear hr tk po nd
  clear hcd
  intro cs q r h
  unfold sp__law_says at h
  split at h
  case h_2 => exact h.elim
  rename_i x b
  walk_at "wp"
  walk_at "sm"
  exact h
/-- data that == and isinstance tell apart as data, of depth at most n -/
def okS : Nat → D → Prop
  | _, .dict _ => False
  | 0, .list _ => False
  | 0, .tuple _ => False
  | n + 1, .list xs => xs.length ≤ sizeLine ∧ ∀ x ∈ xs, okS n x
  | n + 1, .tuple xs => xs.length ≤ sizeLine ∧ ∀ x ∈ xs, okS n x
  | _, _ => True
/-- the same, told the same -/
def sp__law_alike (n : Nat) : Fs := fun cs q _ => ∃ d, cs = [.fz d, .fz d] ∧ okS n d ∧ q (.bool true)
def spi__law_alike : Nat → Fs
  | 0 => fun _ _ _ => False
  | n + 1 => sp__law_alike n
theorem st__law_alike (T : Txt K mg A) (B : Tbs mg base A) (n : Nat) (G : FnOk P w K mg base (L2N.CX P w) (0 + n) A.a__law_alike A.d__law_alike ["found", "due"] (Spf K (LL A) (spi__law_alike n))) : FnOk P w K mg base (L2N.CX P w) (0 + n + 1) A.a__law_alike A.d__law_alike ["found", "due"] (Spf K (LL A) (sp__law_alike n)) := by
  refine fn_flat T.f__law_alike sc__law_alike (by intro cs q r h; unfold sp__law_alike at h; first | (obtain ⟨_, rfl, _⟩ := h; rfl) | (obtain ⟨_, _, rfl, _⟩ := h; rfl) | (obtain ⟨_, _, _, rfl, _⟩ := h; rfl) | (obtain ⟨_, _, _, _, rfl, _⟩ := h; rfl) | (obtain ⟨_, _, _, _, _, rfl, _⟩ := h; rfl) | (obtain ⟨_, _, _, _, _, _, rfl, _⟩ := h; rfl) | (obtain ⟨_, _, _, _, _, _, _, rfl, _⟩ := h; rfl) | (obtain ⟨_, _, _, _, _, _, _, _, rfl, _⟩ := h; rfl) | (obtain ⟨_, _, _, _, _, _, _, _, _, rfl, _⟩ := h; rfl) | (obtain ⟨_, _, _, _, _, _, _, _, _, _, rfl, _⟩ := h; rfl) | (obtain ⟨_, _, _, _, _, _, _, _, _, _, _, rfl, _⟩ := h; rfl) | (obtain ⟨_, _, _, _, _, _, _, _, _, _, _, _, rfl, _⟩ := h; rfl) | (split at h <;> first | rfl | exact h.elim)) (fun cdv hcd A' outer s H E hr tk po => ?_)
  have nd := sc__law_alike.nd
  refine ⟨_, _, (fss_cons (fs_if (ft_w (fw_or (ft_truth (fb_fe (fe_isi isi_lst T.n_isinstance bt_isinstance T.n_list (by decide +kernel) (fb_var 1)))) (fw_or1 (ft_truth (fb_fe (fe_isi isi_tup T.n_isinstance bt_isinstance T.n_tuple (by decide +kernel) (fb_var 1)))))))
  (fss_cons (fs_if (ft_w (fw_or (ft_cmp (cmd_ne hr) (fb_fe (fe_isi isi_lst T.n_isinstance bt_isinstance T.n_list (by decide +kernel) (fb_var 0))) (fb_fe (fe_isi isi_lst T.n_isinstance bt_isinstance T.n_list (by decide +kernel) (fb_var 1)))) (fw_or1 (ft_cmp (cmd_ne hr) (fb_fe (fe_isi isi_tup T.n_isinstance bt_isinstance T.n_tuple (by decide +kernel) (fb_var 0))) (fb_fe (fe_isi isi_tup T.n_isinstance bt_isinstance T.n_tuple (by decide +kernel) (fb_var 1)))))))
  (fss_one (fs_ret fe_bl))
  fss_nil)
 (fss_one (fs_ret (fe_andV (fe_cmp (cmd_eq hr) (fb_fe (fe_bi1 cal_len T.n_len PySem.boot_len (fb_var 0))) (fb_fe (fe_bi1 cal_len T.n_len PySem.boot_len (fb_var 1)))) (fe_one (fe_cmp (cmd_eq hr) (fb_fe (fe_n (fn_lc (own := [("k", 2)]) rfl nd (fi_rng1 T.n_range (fl_cons (fe_bi1 cal_len T.n_len PySem.boot_len (fb_var 1)) fl_nil)) (blkOk_by (by kernel_rfl)) (fun s H C cl fp => (by apply FGc.cast; (case h => exact (fc_name (i := 2) nd (by decide))); (case q => (try dsimp only [FLG.gbx, Cx.blk, FLH.blkH]) <;> exact rfl))) (fun s H C cl fp => (by apply FTs.cast; (case h => exact (fts_one (ft_not (ft_truth (fb_fe (fe_call G hr (takes_wf) rfl T.m__law_alike T.f__law_alike.kp T.b__law_alike (fa_cons (fe_ix (fb_var 0) (fe_var 2)) (fa_cons (fe_ix (fb_var 1) (fe_var 2)) fa_nil)))))))); (case q => (try dsimp only [FLG.gbx, Cx.blk, FLH.blkH]) <;> exact rfl))) (fun s H C cl fp => (by apply FE.cast; (case h => exact (fe_var 2)); (case q => (try dsimp only [FLG.gbx, Cx.blk, FLH.blkH]) <;> exact rfl)))))) (fb_fe (fe_n (fn_lst fl_nil)))))))))
  fss_nil)
 (fss_cons (fs_if (ft_cmp cmd_is (fb_var 1) (fb_fe fe_non))
  (fss_one (fs_ret (fe_cmp cmd_is (fb_var 0) (fb_fe fe_non))))
  fss_nil)
 (fss_cons (fs_if (ft_w (fw_or (ft_truth (fb_fe (fe_isi isi_bool T.n_isinstance bt_isinstance T.n_bool (by decide +kernel) (fb_var 1)))) (fw_or1 (ft_truth (fb_fe (fe_isi isi_bool T.n_isinstance bt_isinstance T.n_bool (by decide +kernel) (fb_var 0)))))))
  (fss_one (fs_ret (fe_andV (fe_isi isi_bool T.n_isinstance bt_isinstance T.n_bool (by decide +kernel) (fb_var 0)) (fe_andV (fe_isi isi_bool T.n_isinstance bt_isinstance T.n_bool (by decide +kernel) (fb_var 1)) (fe_one (fe_cmp (cmd_eq hr) (fb_var 0) (fb_var 1)))))))
  fss_nil)
 (fss_cons (fs_if (ft_truth (fb_fe (fe_isi isi_int T.n_isinstance bt_isinstance T.n_int (by decide +kernel) (fb_var 1))))
  (fss_one (fs_ret (fe_andV (fe_isi isi_int T.n_isinstance bt_isinstance T.n_int (by decide +kernel) (fb_var 0)) (fe_one (fe_cmp (cmd_eq hr) (fb_var 0) (fb_var 1))))))
  fss_nil)
 (fss_one (fs_ret (fe_andV (fe_isi isi_str T.n_isinstance bt_isinstance T.n_str (by decide +kernel) (fb_var 0)) (fe_one (fe_cmp (cmd_eq hr) (fb_var 0) (fb_var 1)))))))))), ?_⟩
  clear hr tk po nd G
  clear hcd
  rintro cs q r ⟨d, rfl, hd, h⟩
  cases d with
  | dict _ => cases n <;> exact hd.elim
  | list xs =>
    cases n with
    | zero => exact hd.elim
    | succ n =>
      walk_at "wp"
      walk_at "sm"
      rw [Int.toNat_natCast]
      refine ⟨rg_len hd.1, lc_fm (fun _ => none) (by rw [rng_len]; exact hd.1) (fun d hm acc J h1 h2 => ?_) ?_⟩
      · obtain ⟨j, hj, rfl⟩ := mem_rng hm
        have hx : xs[j]? = some xs[j] := List.getElem?_eq_getElem hj
        walk_at "wp"
        exact ix_nat hx (ix_nat hx ⟨_, rfl, hd.2 _ (List.mem_of_getElem? hx), trivial, h1 rfl⟩)
      · rw [show (rngD 0 xs.length).filterMap (fun _ => (none : Option D)) = [] by simp]
        exact ⟨by decide, .inr ⟨rfl, rfl⟩, h⟩
  | tuple xs =>
    cases n with
    | zero => exact hd.elim
    | succ n =>
      walk_at "wp"
      walk_at "sm"
      rw [Int.toNat_natCast]
      refine ⟨rg_len hd.1, lc_fm (fun _ => none) (by rw [rng_len]; exact hd.1) (fun d hm acc J h1 h2 => ?_) ?_⟩
      · obtain ⟨j, hj, rfl⟩ := mem_rng hm
        have hx : xs[j]? = some xs[j] := List.getElem?_eq_getElem hj
        walk_at "wp"
        exact ix_nat hx (ix_nat hx ⟨_, rfl, hd.2 _ (List.mem_of_getElem? hx), trivial, h1 rfl⟩)
      · rw [show (rngD 0 xs.length).filterMap (fun _ => (none : Option D)) = [] by simp]
        exact ⟨by decide, .inr ⟨rfl, rfl⟩, h⟩
  | _ =>
    walk_at "wp"
    walk_at "sm"
    exact h
theorem ok__law_alike (T : Txt K mg A) (B : Tbs mg base A) : ∀ n : Nat, FnOk P w K mg base (L2N.CX P w) (0 + n + 1) A.a__law_alike A.d__law_alike ["found", "due"] (Spf K (LL A) (sp__law_alike n))
  | 0 => st__law_alike T B 0 fnok_false
  | n + 1 => st__law_alike T B (n + 1) (ok__law_alike T B n)
/-- ints of places -/
def tab (f : Nat → Int) (n : Nat) : List D := (List.range n).map fun p => .int (f p)
theorem tab_len {f : Nat → Int} {n : Nat} : (tab f n).length = n := by unfold tab; rw [List.length_map, List.length_range]
theorem tab_at {f : Nat → Int} {n k : Nat} (h : k < n) : (tab f n)[k]? = some (.int (f k)) := by
  unfold tab
  rw [List.getElem?_map, List.getElem?_range h]
  rfl
theorem tab_congr {f g : Nat → Int} {n : Nat} (h : ∀ k, k < n → f k = g k) : tab f n = tab g n := by
  unfold tab
  exact List.map_congr_left fun k hk => by rw [h k (List.mem_range.mp hk)]
theorem tab_set {f : Nat → Int} {n k : Nat} {v : Int} : (tab f n).set k (.int v) = tab (fun p => if p = k then v else f p) n := by
  apply List.ext_getElem?
  intro j
  by_cases hj : j < n
  · rw [tab_at hj, List.getElem?_set]
    by_cases e : k = j
    · subst e
      rw [if_pos rfl, if_pos (by rw [tab_len]; exact hj), if_pos rfl]
    · rw [if_neg e, tab_at hj, if_neg (fun z => e z.symm)]
  · rw [List.getElem?_eq_none (by rw [List.length_set, tab_len]; omega), List.getElem?_eq_none (by rw [tab_len]; omega)]
theorem tab_rep {n : Nat} : (List.replicate n [PyData.int 0]).flatten = tab (fun _ => 0) n := by
  unfold tab
  induction n with
  | zero => rfl
  | succ n ih => rw [List.replicate_succ, List.flatten_cons, ih, List.range_succ_eq_map, List.map_cons, List.map_map]; rfl
def hts (xs : List Hl) : List D := tab (fun p => hgt xs p) 102
theorem hgt_snoc (x : Hl) (p : Int) (hx : 0 ≤ x.2.2) : ∀ xs : List Hl, hgt (xs ++ [x]) p = max (hgt xs p) (cov x p)
  | [] => by
    have : 0 ≤ cov x p := by unfold cov; split <;> omega
    show max (cov x p) 0 = max 0 (cov x p)
    omega
  | y :: ys => by
    rw [List.cons_append, hgt, hgt, hgt_snoc x p hx ys]
    omega
def sp__law_heights : Fs := fun cs q _ => ∃ xs : List Hl, cs = [.fz (hsD xs)] ∧ (HOk xs ∧ xs.length ≤ 11) ∧ q (.list (hts xs))
theorem ok__law_heights (T : Txt K mg A) (B : Tbs mg base A) : FnOk P w K mg base (L2N.CX P w) 1 A.a__law_heights A.d__law_heights ["hills"] (Spf K (LL A) sp__law_heights) := by
  refine fn_flat T.f__law_heights sc__law_heights (by intro cs q r h; unfold sp__law_heights at h; first | (obtain ⟨_, rfl, _⟩ := h; rfl) | (obtain ⟨_, _, rfl, _⟩ := h; rfl) | (obtain ⟨_, _, _, rfl, _⟩ := h; rfl) | (obtain ⟨_, _, _, _, rfl, _⟩ := h; rfl) | (obtain ⟨_, _, _, _, _, rfl, _⟩ := h; rfl) | (obtain ⟨_, _, _, _, _, _, rfl, _⟩ := h; rfl) | (obtain ⟨_, _, _, _, _, _, _, rfl, _⟩ := h; rfl) | (obtain ⟨_, _, _, _, _, _, _, _, rfl, _⟩ := h; rfl) | (obtain ⟨_, _, _, _, _, _, _, _, _, rfl, _⟩ := h; rfl) | (obtain ⟨_, _, _, _, _, _, _, _, _, _, rfl, _⟩ := h; rfl) | (obtain ⟨_, _, _, _, _, _, _, _, _, _, _, rfl, _⟩ := h; rfl) | (obtain ⟨_, _, _, _, _, _, _, _, _, _, _, _, rfl, _⟩ := h; rfl) | (split at h <;> first | rfl | exact h.elim)) (fun cdv hcd A' outer s H E hr tk po => ?_)
  have nd := sc__law_heights.nd
  refine ⟨_, _, (fss_cons (fs_own (i := 1) nd (fn_rep (fn_lst (fl_cons fe_int fl_nil)) fe_int))
 (fss_cons (fs_for po rfl (fi_seq (fe_var 0)) (fg_tup (n := 3) rfl (fgs_cons (fg_name (i := 2) nd) (fgs_cons (fg_name (i := 3) nd) (fgs_cons (fg_name (i := 4) nd) fgs_nil))))
  (fss_one (fs_for po rfl (fi_rng2 T.n_range (fl_cons (fe_var 2) (fl_cons (fe_var 3) fl_nil))) (fg_name (i := 5) nd)
  (fss_one (fs_seti 1 (fe_bi (cal_max2 rfl) T.n_max (by decide +kernel) (fl_cons (fe_ix (fb_var 1) (fe_var 5)) (fl_cons (fe_var 4) fl_nil))) (fe_var 5))))))
 (fss_one (fs_fix 1 (fs_ret (fe_var 1)))))), ?_⟩
  clear hr tk po nd
  clear hcd
  rintro cs q r ⟨xs, rfl, ⟨ok, hl⟩, h⟩
  unfold hsD
  walk_at "wp"
  refine ⟨by decide, by decide, by decide, by decide, ?_⟩
  rw [tab_rep]
  refine ⟨fun i s' => ∃ x2 x3 x4 x5 : Cel, s' = [.fz (.tuple (xs.map hD)), .ow (tab (fun p => hgt (xs.take i) p) 102), x2, x3, x4, x5], ⟨_, _, _, _, rfl⟩, ?_, ?_⟩
  · rintro i d s' e ⟨x2, x3, x4, x5, rfl⟩
    rw [List.getElem?_map] at e
    cases en : xs[i]? with
    | none => rw [en] at e; cases e
    | some x =>
      rw [en] at e
      cases e
      obtain ⟨hi, ex⟩ := List.getElem?_eq_some_iff.mp en
      have okx := ok x (List.mem_of_getElem? en)
      have et : xs.take (i + 1) = xs.take i ++ [x] := by rw [List.take_succ_eq_append_getElem hi, ex]
      rw [show hD x = .tuple [.int x.1, .int x.2.1, .int x.2.2] from rfl]
      walk_at "wp"
      refine ⟨rfl, rfl, ⟨by omega, by omega⟩, ⟨by omega, by omega⟩, fun j s' => ∃ x5 : Cel, s' = [.fz (.tuple (xs.map hD)), .ow (tab (fun p => if x.1 ≤ p ∧ (p : Int) < x.1 + j then max (hgt (xs.take i) p) x.2.2 else hgt (xs.take i) p) 102), .fz (.int x.1), .fz (.int x.2.1), .fz (.int x.2.2), x5], ⟨x5, ?_⟩, ?_, ?_⟩
      · congr 3
        refine tab_congr fun k _ => ?_
        rw [if_neg (by omega)]
      · rintro j d s' e ⟨x5, rfl⟩
        obtain ⟨rfl, hj⟩ := rng_get e
        obtain ⟨b, hb⟩ := Int.eq_ofNat_of_zero_le okx.1
        rw [hb] at hj ⊢
        have hbj : b + j < 102 := by omega
        walk_at "wp"
        rw [show (b : Int) + (j : Int) = ((b + j : Nat) : Int) from rfl]
        refine ix_nat (tab_at hbj) ⟨_, ix_lt (by rw [tab_len]; exact hbj), .fz (.int ((b + j : Nat) : Int)), ?_⟩
        rw [tab_set]
        congr 3
        refine tab_congr fun k _ => ?_
        by_cases e : k = b + j
        · subst e
          rw [if_pos rfl, if_pos (show (b : Int) ≤ ((b + j : Nat) : Int) ∧ ((b + j : Nat) : Int) < (b : Int) + ((j + 1 : Nat) : Int) by omega), if_neg (show ¬ ((b : Int) ≤ ((b + j : Nat) : Int) ∧ ((b + j : Nat) : Int) < ((b + j : Nat) : Int)) by omega)]
          split <;> omega
        · rw [if_neg e]
          by_cases q : (b : Int) ≤ k ∧ (k : Int) < ((b + j : Nat) : Int)
          · rw [if_pos q, if_pos (by omega)]
          · rw [if_neg q, if_neg (by omega)]
      · rintro s' ⟨x5, rfl⟩
        rw [rng_len, et]
        refine ⟨.fz (.int x.1), .fz (.int x.2.1), .fz (.int x.2.2), x5, ?_⟩
        congr 3
        refine tab_congr fun k _ => ?_
        rw [hgt_snoc _ _ (by omega)]
        have := hgt_nn k (xs.take i)
        unfold cov
        split <;> split <;> omega
  · rintro s' ⟨x2, x3, x4, x5, rfl⟩
    rw [List.length_map, List.take_length]
    walk_at "wp"
    exact h
def sp__law_horizon : Fs := fun cs q _ => ∃ xs : List Hl, cs = [.fz (hsD xs)] ∧ (HOk xs ∧ xs.length ≤ 11) ∧ q (chD (CH (hgt xs) 102))
local macro_rules | `(tactic| walk_at "wp") => `(tactic| try dsimp only [u_seq, u_next, u_drop, u_ret, u_retO, u_ifS, u_asg, u_setO, u_par, u_par3, wDead, wDeadE, wIdxC, dEqS, dNeS, wRaise, wTry, wAPx, wIsX, wCallT, wListI, sufS, wRevA, dRev, wZip, wAugi, wEnum, wSortI, u_parO, u_par3O, u_parM, wParM, wmNil, wmVal, wmNew, setAll, u_parOc, u_aug, u_for, u_app, u_fix, u_gname, l_map1, l_map0, b_nt, b_nf, c_t, c_f, wVar, wVarB, wC, wOp, dI, dI0, dAdd, wNeg, wCmpV, wCmpT, dEq, dNe, dO, isNoneD, dIsN, dNotN, wAndT, wOrT, wNotT, truOk, truD, wTruT, wNotV, wAndV, wOrV, wIf, wChain, wBoolV, wIx, wNil, wCons, wTup, wLst, wN, wANil, wACons, wADr, wCall, wCallN, wgNil, wgCons, wgTup, wgLst, wSeqI, seqD, wRng1, wRng2, wRng3, wCal, dAbs, dMax2, dMin2, dInt1, wCalB, dLen, isIntD, isBoolD, isStrD, isTupD, isLstD, wIsi, wLRev, wListA, dTupA, startS, wO0, wO1, dSl, wSl, wSlN, wRepN, wRepA, dIn, dGcd, dIntsL, dIntsA, wStar, wSeti, wUnDr, wSetDr, spDraw, dBest, wSetL, wLc, wAll, wAny, wYes, stpAll, stpAny, u_wipe0, u_wipe1, u_lk0, u_lk1, lkC, spTake, List.getElem?_cons_zero, List.getElem?_cons_succ, List.getElem?_nil, List.set_cons_zero, List.set_cons_succ, List.length_cons, List.length_nil, List.replicate_succ, List.replicate_zero, List.cons_append, List.nil_append, Nat.reduceAdd, Nat.reduceSub, sp__law_heights])
theorem ok__law_horizon (T : Txt K mg A) (B : Tbs mg base A) : FnOk P w K mg base (L2N.CX P w) 2 A.a__law_horizon A.d__law_horizon ["hills"] (Spf K (LL A) sp__law_horizon) := by
  refine fn_flat T.f__law_horizon sc__law_horizon (by intro cs q r h; unfold sp__law_horizon at h; first | (obtain ⟨_, rfl, _⟩ := h; rfl) | (obtain ⟨_, _, rfl, _⟩ := h; rfl) | (obtain ⟨_, _, _, rfl, _⟩ := h; rfl) | (obtain ⟨_, _, _, _, rfl, _⟩ := h; rfl) | (obtain ⟨_, _, _, _, _, rfl, _⟩ := h; rfl) | (obtain ⟨_, _, _, _, _, _, rfl, _⟩ := h; rfl) | (obtain ⟨_, _, _, _, _, _, _, rfl, _⟩ := h; rfl) | (obtain ⟨_, _, _, _, _, _, _, _, rfl, _⟩ := h; rfl) | (obtain ⟨_, _, _, _, _, _, _, _, _, rfl, _⟩ := h; rfl) | (obtain ⟨_, _, _, _, _, _, _, _, _, _, rfl, _⟩ := h; rfl) | (obtain ⟨_, _, _, _, _, _, _, _, _, _, _, rfl, _⟩ := h; rfl) | (obtain ⟨_, _, _, _, _, _, _, _, _, _, _, _, rfl, _⟩ := h; rfl) | (split at h <;> first | rfl | exact h.elim)) (fun cdv hcd A' outer s H E hr tk po => ?_)
  have nd := sc__law_horizon.nd
  refine ⟨_, _, (fss_cons (fs_par3O (i := 2) (j := 3) (l := 4) rfl nd (fe_call (ok__law_heights T B) (hr.mono (by decide)) tk rfl T.m__law_heights T.f__law_heights.kp T.b__law_heights (fa_cons (fe_var 0) fa_nil)) fe_int (fn_lst fl_nil))
 (fss_cons (fs_for po rfl (fi_rng1 T.n_range (fl_cons fe_int fl_nil)) (fg_name (i := 1) nd)
  (fss_cons (fs_if (ft_cmp (cmd_ne hr) (fb_fe (fe_ix (fb_var 2) (fe_var 1))) (fb_var 3))
  (fss_one (fs_app 4 (fe_tup (fl_cons (fe_var 1) (fl_cons (fe_ix (fb_var 2) (fe_var 1)) fl_nil)))))
  fss_nil)
 (fss_one (fs_set (i := 3) nd (fe_ix (fb_var 2) (fe_var 1))))))
 (fss_one (fs_ret (fe_ty1 cal_tuple T.n_tuple (by decide +kernel) (fb_var 4)))))), ?_⟩
  clear hr tk po nd
  clear hcd
  rintro cs q r ⟨xs, rfl, ⟨ok, hl⟩, h⟩
  walk_at "wp"
  refine ⟨xs, rfl, ⟨ok, hl⟩, by decide, ⟨by decide, by decide⟩, fun i s' => ∃ x1 : Cel, s' = [.fz (hsD xs), x1, .fz (.list (hts xs)), .fz (.int (hgt xs ((i : Int) - 1))), .ow ((CH (hgt xs) i).map prI)], ⟨.no, ?_⟩, ?_, ?_⟩
  · rw [show ((0 : Nat) : Int) - 1 = -1 by decide, hgt_out ok (.inl (by decide))]
    rfl
  · rintro i d s' e ⟨x1, rfl⟩
    obtain ⟨rfl, hi⟩ := rng_get0 e
    have e2 : ((i + 1 : Nat) : Int) - 1 = i := by omega
    have lc : (CH (hgt xs) i).length ≤ i := by
      clear hi e e2
      induction i with
      | zero => exact Nat.le_refl _
      | succ n ih =>
        rw [CH, List.length_append]
        split
        · exact Nat.succ_le_succ ih
        · exact Nat.le_succ_of_le ih
    walk_at "wp"
    rw [e2]
    refine ix_nat (tab_at (k := i) hi) ⟨.inl rfl, ?_⟩
    rw [ev_ii, FL.cond_not, CH]
    have fin : ∃ d, atI (hts xs) (i : Int) = some d ∧ ∃ x1 : Cel, True := ⟨_, atI_nat (tab_at (k := i) hi), .no, trivial⟩
    refine FL.cond_of (fun z => ?_) fun z => ?_
    · rw [if_neg (Classical.not_not.mpr (of_decide_eq_true z)), List.append_nil]
      exact ix_nat (tab_at (k := i) hi) ⟨_, rfl⟩
    · rw [if_pos (of_decide_eq_false z), List.map_append]
      exact ix_nat (tab_at (k := i) hi) ⟨by decide, by rw [List.length_map]; exact Nat.lt_of_le_of_lt (show _ ≤ 102 by omega) (by decide), ix_nat (tab_at (k := i) hi) ⟨_, rfl⟩⟩
  · rintro s' ⟨x1, rfl⟩
    rw [rng_len]
    walk_at "wp"
    exact h
def sp__law_seen : Fs := fun cs q _ => ∃ xs : List Hl, cs = [.fz (hsD xs)] ∧ (HOk xs ∧ xs.length ≤ 11) ∧ q (.list (natsD (seenL xs)))
local macro_rules | `(tactic| walk_at "wp") => `(tactic| try dsimp only [u_seq, u_next, u_drop, u_ret, u_retO, u_ifS, u_asg, u_setO, u_par, u_par3, wDead, wDeadE, wIdxC, dEqS, dNeS, wRaise, wTry, wAPx, wIsX, wCallT, wListI, sufS, wRevA, dRev, wZip, wAugi, wEnum, wSortI, u_parO, u_par3O, u_parM, wParM, wmNil, wmVal, wmNew, setAll, u_parOc, u_aug, u_for, u_app, u_fix, u_gname, l_map1, l_map0, b_nt, b_nf, c_t, c_f, wVar, wVarB, wC, wOp, dI, dI0, dAdd, wNeg, wCmpV, wCmpT, dEq, dNe, dO, isNoneD, dIsN, dNotN, wAndT, wOrT, wNotT, truOk, truD, wTruT, wNotV, wAndV, wOrV, wIf, wChain, wBoolV, wIx, wNil, wCons, wTup, wLst, wN, wANil, wACons, wADr, wCall, wCallN, wgNil, wgCons, wgTup, wgLst, wSeqI, seqD, wRng1, wRng2, wRng3, wCal, dAbs, dMax2, dMin2, dInt1, wCalB, dLen, isIntD, isBoolD, isStrD, isTupD, isLstD, wIsi, wLRev, wListA, dTupA, startS, wO0, wO1, dSl, wSl, wSlN, wRepN, wRepA, dIn, dGcd, dIntsL, dIntsA, wStar, wSeti, wUnDr, wSetDr, spDraw, dBest, wSetL, wLc, wAll, wAny, wYes, stpAll, stpAny, u_wipe0, u_wipe1, u_lk0, u_lk1, lkC, spTake, List.getElem?_cons_zero, List.getElem?_cons_succ, List.getElem?_nil, List.set_cons_zero, List.set_cons_succ, List.length_cons, List.length_nil, List.replicate_succ, List.replicate_zero, List.cons_append, List.nil_append, Nat.reduceAdd, Nat.reduceSub, sp__law_heights])
theorem ok__law_seen (T : Txt K mg A) (B : Tbs mg base A) : FnOk P w K mg base (L2N.CX P w) 2 A.a__law_seen A.d__law_seen ["hills"] (Spf K (LL A) sp__law_seen) := by
  refine fn_flat T.f__law_seen sc__law_seen (by intro cs q r h; unfold sp__law_seen at h; first | (obtain ⟨_, rfl, _⟩ := h; rfl) | (obtain ⟨_, _, rfl, _⟩ := h; rfl) | (obtain ⟨_, _, _, rfl, _⟩ := h; rfl) | (obtain ⟨_, _, _, _, rfl, _⟩ := h; rfl) | (obtain ⟨_, _, _, _, _, rfl, _⟩ := h; rfl) | (obtain ⟨_, _, _, _, _, _, rfl, _⟩ := h; rfl) | (obtain ⟨_, _, _, _, _, _, _, rfl, _⟩ := h; rfl) | (obtain ⟨_, _, _, _, _, _, _, _, rfl, _⟩ := h; rfl) | (obtain ⟨_, _, _, _, _, _, _, _, _, rfl, _⟩ := h; rfl) | (obtain ⟨_, _, _, _, _, _, _, _, _, _, rfl, _⟩ := h; rfl) | (obtain ⟨_, _, _, _, _, _, _, _, _, _, _, rfl, _⟩ := h; rfl) | (obtain ⟨_, _, _, _, _, _, _, _, _, _, _, _, rfl, _⟩ := h; rfl) | (split at h <;> first | rfl | exact h.elim)) (fun cdv hcd A' outer s H E hr tk po => ?_)
  have nd := sc__law_seen.nd
  refine ⟨_, _, (fss_cons (fs_set (i := 1) nd (fe_n (fn_lst fl_nil)))
 (fss_cons (fs_for po rfl (fi_rng1 T.n_range (fl_cons (fe_bi1 cal_len T.n_len PySem.boot_len (fb_var 0)) fl_nil)) (fg_name (i := 2) nd)
  (fss_cons (fs_set (i := 3) nd (fe_call (ok__law_heights T B) (hr.mono (by decide)) tk rfl T.m__law_heights T.f__law_heights.kp T.b__law_heights (fa_cons (fe_add (fe_sl (fb_var 0) fo_none (fo_some (fe_var 2))) (fe_sl (fb_var 0) (fo_some (fe_add (fe_var 2) fe_int)) fo_none)) fa_nil)))
 (fss_one (fs_set (i := 1) nd (fe_add (fe_var 1) (fe_n (fn_rep (fn_lst (fl_cons (fe_var 2) fl_nil)) (fe_ty cal_int1 T.n_int (by decide +kernel) (fl_cons (fe_cmp (cmd_ne hr) (fb_fe (fe_n (fn_lc (own := [("place", 4)]) rfl nd (fi_rng2 T.n_range (fl_cons (fe_ix (fb_fe (fe_ix (fb_var 0) (fe_var 2))) fe_int) (fl_cons (fe_ix (fb_fe (fe_ix (fb_var 0) (fe_var 2))) fe_int) fl_nil))) (blkOk_by (by kernel_rfl)) (fun s H C cl fp => (by apply FGc.cast; (case h => exact (fc_name (i := 4) nd (by decide))); (case q => (try dsimp only [FLG.gbx, Cx.blk, FLH.blkH]) <;> exact rfl))) (fun s H C cl fp => (by apply FTs.cast; (case h => exact (fts_one (ft_cmp cmd_lt (fb_fe (fe_ix (fb_var 3) (fe_var 4))) (fb_fe (fe_ix (fb_fe (fe_ix (fb_var 0) (fe_var 2))) fe_int))))); (case q => (try dsimp only [FLG.gbx, Cx.blk, FLH.blkH]) <;> exact rfl))) (fun s H C cl fp => (by apply FE.cast; (case h => exact (fe_var 4)); (case q => (try dsimp only [FLG.gbx, Cx.blk, FLH.blkH]) <;> exact rfl)))))) (fb_fe (fe_n (fn_lst fl_nil)))) fl_nil)))))))))
 (fss_one (fs_ret (fe_var 1))))), ?_⟩
  clear hr tk po nd
  clear hcd
  rintro cs q r ⟨xs, rfl, ⟨ok, hl⟩, h⟩
  unfold hsD
  walk_at "wp"
  rw [List.length_map]
  refine ⟨by decide, ⟨by omega, by omega⟩, fun i s' => ∃ x2 x3 x4 : Cel, s' = [.fz (.tuple (xs.map hD)), .fz (.list (natsD ((List.range i).filter (vis xs)))), x2, x3, x4], ⟨_, _, _, rfl⟩, ?_, ?_⟩
  · rintro i d s' e ⟨x2, x3, x4, rfl⟩
    obtain ⟨rfl, hi⟩ := rng_get0 e
    obtain ⟨x, ex⟩ : ∃ x, xs[i]? = some x := ⟨_, List.getElem?_eq_getElem hi⟩
    have okx := ok x (List.mem_of_getElem? ex)
    have exd : (xs.map hD)[i]? = some (.tuple [.int x.1, .int x.2.1, .int x.2.2]) := by rw [List.getElem?_map, ex]; rfl
    have ev : (List.range (i + 1)).filter (vis xs) = (List.range i).filter (vis xs) ++ if vis xs i then [i] else [] := by
      rw [List.range_succ, List.filter_append]
      congr 1
      simp [List.filter_cons]
    have lc := cut_length hi
    walk_at "wp"
    have e1 : cutL (xs.map hD) none (some (i : Int)) ++ cutL (xs.map hD) (some ((i : Int) + 1)) none = (cutAt xs i).map hD := by
      rw [cut_take, show ((i : Int) + 1) = ((i + 1 : Nat) : Int) by omega, cut_drop, ← List.map_take, ← List.map_drop, ← List.map_append]
      rfl
    have l2 := congrArg List.length e1
    rw [List.length_append, List.length_map] at l2
    refine ⟨by rw [l2]; exact Nat.le_trans (show _ ≤ 11 by omega) (by decide), cutAt xs i, by rw [e1]; rfl, ⟨cut_ok ok i, by omega⟩, by decide, _, atI_nat exd, ?_⟩
    walk_at "wp"
    refine ⟨_, atI_nat (j := 0) rfl, _, atI_nat exd, ?_⟩
    walk_at "wp"
    refine ⟨_, atI_nat (j := 1) rfl, ?_⟩
    walk_at "wp"
    refine ⟨⟨by omega, by omega⟩, ⟨by omega, by omega⟩, lc_filter (fun d => match d with | .int p => decide (hgt (cutAt xs i) p < x.2.2) | _ => false) (by rw [rng_len]; exact Nat.le_trans (show _ ≤ 100 by omega) (by decide)) (fun d hd acc J h1 h2 => ?_) ?_⟩
    · obtain ⟨k, hk⟩ := List.getElem?_of_mem hd
      obtain ⟨rfl, hk⟩ := rng_get hk
      obtain ⟨b, hb⟩ := Int.eq_ofNat_of_zero_le okx.1
      rw [hb] at h1 h2 hk ⊢
      walk_at "wp"
      rw [show (b : Int) + (k : Int) = ((b + k : Nat) : Int) from rfl] at *
      refine ⟨_, atI_nat (tab_at (k := b + k) (by omega)), _, atI_nat exd, ?_⟩
      walk_at "wp"
      refine ⟨_, atI_nat (j := 2) rfl, ?_⟩
      walk_at "wp"
      exact FL.cond_of (fun z => h2 z) fun z => h1 z
    · have hs : Sh 1 (.list ((rngD x.1 (x.2.1 - x.1).toNat).filter fun d => match d with | .int p => decide (hgt (cutAt xs i) p < x.2.2) | _ => false)) := sh_l fun d hd => by
        obtain ⟨k, hk⟩ := List.getElem?_of_mem (List.mem_filter.mp hd).1
        obtain ⟨rfl, hk⟩ := rng_get hk
        exact sh_i
      have hv : PyData.eqv (.list ((rngD x.1 (x.2.1 - x.1).toNat).filter fun d => match d with | .int p => decide (hgt (cutAt xs i) p < x.2.2) | _ => false)) (.list []) = !vis xs i := by
        rw [ev_lnil]
        unfold vis rngD
        rw [ex]
        dsimp only
        rw [List.filter_map]
        cases e : (List.range (x.2.1 - x.1).toNat).any fun i_1 => decide (hgt (cutAt xs i) (x.1 + i_1) < x.2.2) with
        | false =>
          rw [List.any_eq_false] at e
          refine decide_eq_true (List.map_eq_nil_iff.mpr (List.filter_eq_nil_iff.mpr fun k hk => e k hk))
        | true =>
          obtain ⟨k, hk, ek⟩ := List.any_eq_true.mp e
          refine decide_eq_false fun z => ?_
          exact (List.filter_eq_nil_iff.mp (List.map_eq_nil_iff.mp z)) k hk ek
      generalize (rngD x.1 (x.2.1 - x.1).toNat).filter (fun d => match d with | .int p => decide (hgt (cutAt xs i) p < x.2.2) | _ => false) = L at *
      rw [hv, Bool.not_not]
      refine ⟨by decide, sh_eq hs sh_nilL, by split <;> decide, by split <;> decide, ?_⟩
      have ln : (natsD ((List.range i).filter (vis xs))).length ≤ 11 := by
        unfold natsD
        rw [List.length_map]
        exact Nat.le_trans (List.length_filter_le _ _) (by rw [List.length_range]; omega)
      rw [ev]
      cases vis xs i with
      | true => exact ⟨by decide, Nat.le_trans (show _ ≤ 12 from Nat.succ_le_succ ln) (by decide), .fz (.int i), .fz (.list (hts (cutAt xs i))), x4, by unfold natsD; rw [List.map_append]; rfl⟩
      | false => exact ⟨by decide, Nat.le_trans ln (by decide), .fz (.int i), .fz (.list (hts (cutAt xs i))), x4, by simp⟩
  · rintro s' ⟨x2, x3, x4, rfl⟩
    rw [rng_len]
    walk_at "wp"
    exact h
theorem hills_ok {xs : List Hl} (ok : HOk xs) (h1 : 1 ≤ xs.length) (h2 : xs.length ≤ 10) : hillsB (hsD xs) = true := by
  have e : hillsB (hsD xs) = (decide (1 ≤ (xs.map hD).length) && decide ((xs.map hD).length ≤ 10) && (xs.map hD).all hillB) := rfl
  rw [e, List.length_map, decide_eq_true h1, decide_eq_true h2, Bool.true_and, Bool.true_and, List.all_map]
  refine List.all_eq_true.mpr fun x hx => ?_
  have := ok x hx
  show (isNum (.int x.2.2) 1 50 && (isNum (.int x.1) 0 100 && isNum (.int x.2.1) 0 100) && ltB (.int x.1) (.int x.2.1)) = true
  unfold isNum ltB
  simp only [Bool.and_eq_true, decide_eq_true_eq]
  omega
theorem seen_len (xs : List Hl) : (natsD (seenL xs)).length ≤ xs.length := by
  unfold natsD seenL
  rw [List.length_map]
  exact Nat.le_trans (List.length_filter_le _ _) (by rw [List.length_range]; exact Nat.le_refl _)
def unseenL (xs : List Hl) : List Nat := (List.range xs.length).filter fun k => !vis xs k
local macro_rules | `(tactic| walk_at "wp") => `(tactic| try dsimp only [u_seq, u_next, u_drop, u_ret, u_retO, u_ifS, u_asg, u_setO, u_par, u_par3, wDead, wDeadE, wIdxC, dEqS, dNeS, wRaise, wTry, wAPx, wIsX, wCallT, wListI, sufS, wRevA, dRev, wZip, wAugi, wEnum, wSortI, u_parO, u_par3O, u_parM, wParM, wmNil, wmVal, wmNew, setAll, u_parOc, u_aug, u_for, u_app, u_fix, u_gname, l_map1, l_map0, b_nt, b_nf, c_t, c_f, wVar, wVarB, wC, wOp, dI, dI0, dAdd, wNeg, wCmpV, wCmpT, dEq, dNe, dO, isNoneD, dIsN, dNotN, wAndT, wOrT, wNotT, truOk, truD, wTruT, wNotV, wAndV, wOrV, wIf, wChain, wBoolV, wIx, wNil, wCons, wTup, wLst, wN, wANil, wACons, wADr, wCall, wCallN, wgNil, wgCons, wgTup, wgLst, wSeqI, seqD, wRng1, wRng2, wRng3, wCal, dAbs, dMax2, dMin2, dInt1, wCalB, dLen, isIntD, isBoolD, isStrD, isTupD, isLstD, wIsi, wLRev, wListA, dTupA, startS, wO0, wO1, dSl, wSl, wSlN, wRepN, wRepA, dIn, dGcd, dIntsL, dIntsA, wStar, wSeti, wUnDr, wSetDr, spDraw, dBest, wSetL, wLc, wAll, wAny, wYes, stpAll, stpAny, u_wipe0, u_wipe1, u_lk0, u_lk1, lkC, spTake, List.getElem?_cons_zero, List.getElem?_cons_succ, List.getElem?_nil, List.set_cons_zero, List.set_cons_succ, List.length_cons, List.length_nil, List.replicate_succ, List.replicate_zero, List.cons_append, List.nil_append, Nat.reduceAdd, Nat.reduceSub, sp__law_draws, sp__law_says, sp__law_heights, sp__law_horizon, sp__law_alike, sp_are_hills, sp_seen, sp_horizon, sp_hidden, sp_height_at, sp__law_seen])
theorem ok_law (T : Txt K mg A) (B : Tbs mg base A) : FnOk P w K mg base (L2N.CX P w) 6 A.a_law A.d_law ["script"] (spLaw K (LL A)) := by
  refine fn_law (i := 1) T.f_law sc_law rfl (fun cdv hcd A' outer s H E hr tk po => ?_)
  have nd := sc_law.nd
  refine ⟨_, _, _, _, FS.pe (L := LL A) (W := fun cls d _ H => E cls d H) (fs_own (i := 1) nd (fn_call (ok__law_draws T B) (hr.mono (by decide)) tk rfl T.m__law_draws T.f__law_draws.kp T.b__law_draws (fa_cons (fe_var 0) fa_nil))), (fn_call (ok__law_draws T B) (hr.mono (by decide)) tk rfl T.m__law_draws T.f__law_draws.kp T.b__law_draws (fa_cons (fe_var 0) fa_nil)),
 (fss_cons (fs_parM (is := [11, 3]) rfl (fm_val (fe_ix (fb_fe (fe_n (fn_lst (fl_cons fe_int (fl_cons fe_int fl_nil))))) (fe_call (ok__law_take T B) (hr.mono (by decide)) tk rfl T.m__law_take T.f__law_take.kp T.b__law_take (fa_dr 1 (fa_cons fe_int fa_nil)))) (fm_new (fn_lst fl_nil) fm_nil)) (nms_cons (i := 11) nd (nms_cons (i := 3) nd nms_nil)))
 (fss_cons (fs_for po rfl (fi_rng1 T.n_range (fl_cons (fe_add fe_int (fe_call (ok__law_take T B) (hr.mono (by decide)) tk rfl T.m__law_take T.f__law_take.kp T.b__law_take (fa_dr 1 (fa_cons fe_int fa_nil)))) fl_nil)) (fg_name (i := 2) nd)
  (fss_cons (fs_set (i := 5) nd (fe_call (ok__law_take T B) (hr.mono (by decide)) tk rfl T.m__law_take T.f__law_take.kp T.b__law_take (fa_dr 1 (fa_cons (fe_var 11) fa_nil))))
 (fss_one (fs_app 3 (fe_tup (fl_cons (fe_var 5) (fl_cons (fe_add (fe_add (fe_var 5) fe_int) (fe_call (ok__law_take T B) (hr.mono (by decide)) tk rfl T.m__law_take T.f__law_take.kp T.b__law_take (fa_dr 1 (fa_cons (fe_bi (cal_min2 rfl) T.n_min (by decide +kernel) (fl_cons (fe_var 11) (fl_cons (fe_sub fe_int (fe_var 5)) fl_nil))) fa_nil)))) (fl_cons (fe_add fe_int (fe_call (ok__law_take T B) (hr.mono (by decide)) tk rfl T.m__law_take T.f__law_take.kp T.b__law_take (fa_dr 1 (fa_cons (fe_ix (fb_fe (fe_n (fn_lst (fl_cons fe_int (fl_cons fe_int fl_nil))))) (fe_call (ok__law_take T B) (hr.mono (by decide)) tk rfl T.m__law_take T.f__law_take.kp T.b__law_take (fa_dr 1 (fa_cons fe_int fa_nil)))) fa_nil)))) fl_nil))))))))
 (fss_cons (fs_set (i := 3) nd (fe_ty1 cal_tuple T.n_tuple (by decide +kernel) (fb_var 3)))
 (fss_cons (fs_fix 3 (fs_if (ft_not (ft_truth (fb_fe (fe_call (ok__law_says T B) (hr.mono (by decide)) tk rfl T.m__law_says T.f__law_says.kp T.b__law_says (fa_cons (fe_call (ok_are_hills T B) (hr.mono (by decide)) tk rfl T.m_are_hills T.f_are_hills.kp T.b_are_hills (fa_cons (fe_var 3) fa_nil)) (fa_cons fe_bl fa_nil))))))
  (fss_one (fs_ret fe_bl))
  fss_nil))
 (fss_cons (fs_fix 3 (fs_asg (fe_tup (fl_cons (fe_call (ok__law_heights T B) (hr.mono (by decide)) tk rfl T.m__law_heights T.f__law_heights.kp T.b__law_heights (fa_cons (fe_var 3) fa_nil)) (fl_cons (fe_call (ok__law_horizon T B) (hr.mono (by decide)) tk rfl T.m__law_horizon T.f__law_horizon.kp T.b__law_horizon (fa_cons (fe_var 3) fa_nil)) fl_nil))) (fg_tup (n := 2) rfl (fgs_cons (fg_name (i := 12) nd) (fgs_cons (fg_name (i := 13) nd) fgs_nil)))))
 (fss_cons (fs_fix 3 (fs_if (ft_w (fw_or (ft_not (ft_truth (fb_fe (fe_call (ok__law_alike T B 3) (hr.mono (by decide)) tk rfl T.m__law_alike T.f__law_alike.kp T.b__law_alike (fa_cons (fe_n (fn_lst (fl_cons (fe_call (ok_horizon T B) (hr.mono (by decide)) tk rfl T.m_horizon T.f_horizon.kp T.b_horizon (fa_cons (fe_var 3) fa_nil)) (fl_cons (fe_call (ok_horizon T B) (hr.mono (by decide)) tk rfl T.m_horizon T.f_horizon.kp T.b_horizon (fa_cons (fe_rev (fb_var 3)) fa_nil)) (fl_cons (fe_call (ok_hidden T B) (hr.mono (by decide)) tk rfl T.m_hidden T.f_hidden.kp T.b_hidden (fa_cons (fe_var 3) fa_nil)) fl_nil))))) (fa_cons (fe_n (fn_lst (fl_cons (fe_var 13) (fl_cons (fe_var 13) (fl_cons (fe_bi1 cal_sumA T.n_sum (by decide +kernel) (fb_var 12)) fl_nil))))) fa_nil)))))) (fw_or (ft_cmp cmd_gt (fb_fe (fe_bi1 cal_len T.n_len PySem.boot_len (fb_var 13))) (fb_fe (fe_mul fe_int (fe_bi1 cal_len T.n_len PySem.boot_len (fb_var 3))))) (fw_or (ft_cmp (cmd_ne hr) (fb_fe (fe_ix (fb_fe (fe_ix (fb_var 13) (fe_neg fe_int))) fe_int)) (fb_fe fe_int)) (fw_or1 (ft_cmp (cmd_ne hr) (fb_fe (fe_ix (fb_fe (fe_ix (fb_var 13) fe_int)) fe_int)) (fb_fe (fe_bi1 (cal_minT hr) T.n_min (by decide +kernel) (fb_fe (fe_n (fn_lc (own := [("hill", 18)]) rfl nd (fi_seq (fe_var 3)) (blkOk_by (by kernel_rfl)) (fun s H C cl fp => (by apply FGc.cast; (case h => exact (fc_name (i := 18) nd (by decide))); (case q => (try dsimp only [FLG.gbx, Cx.blk, FLH.blkH]) <;> exact rfl))) (fun s H C cl fp => (by apply FTs.cast; (case h => exact fts_nil); (case q => (try dsimp only [FLG.gbx, Cx.blk, FLH.blkH]) <;> exact rfl))) (fun s H C cl fp => (by apply FE.cast; (case h => exact (fe_ix (fb_var 18) fe_int)); (case q => (try dsimp only [FLG.gbx, Cx.blk, FLH.blkH]) <;> exact rfl))))))))))))))
  (fss_one (fs_ret fe_bl))
  fss_nil))
 (fss_cons (fs_for po rfl (fi_rng1 T.n_range (fl_cons fe_int fl_nil)) (fg_name (i := 4) nd)
  (fss_cons (fs_set (i := 14) nd (fe_call (ok__law_take T B) (hr.mono (by decide)) tk rfl T.m__law_take T.f__law_take.kp T.b__law_take (fa_dr 1 (fa_cons fe_int fa_nil))))
 (fss_one (fs_fix 3 (fs_if (ft_not (ft_truth (fb_fe (fe_call (ok__law_alike T B 3) (hr.mono (by decide)) tk rfl T.m__law_alike T.f__law_alike.kp T.b__law_alike (fa_cons (fe_call (ok_height_at T B) (hr.mono (by decide)) tk rfl T.m_height_at T.f_height_at.kp T.b_height_at (fa_cons (fe_var 3) (fa_cons (fe_var 14) fa_nil))) (fa_cons (fe_ix (fb_var 12) (fe_var 14)) fa_nil))))))
  (fss_one (fs_ret fe_bl))
  fss_nil)))))
 (fss_cons (fs_set (i := 5) nd (fe_call (ok__law_take T B) (hr.mono (by decide)) tk rfl T.m__law_take T.f__law_take.kp T.b__law_take (fa_dr 1 (fa_cons fe_int fa_nil))))
 (fss_cons (fs_fix 3 (fs_set (i := 6) nd (fe_add (fe_var 3) (fe_tup (fl_cons (fe_tup (fl_cons (fe_var 5) (fl_cons (fe_add (fe_add (fe_var 5) fe_int) (fe_call (ok__law_take T B) (hr.mono (by decide)) tk rfl T.m__law_take T.f__law_take.kp T.b__law_take (fa_dr 1 (fa_cons (fe_sub fe_int (fe_var 5)) fa_nil)))) (fl_cons (fe_add fe_int (fe_call (ok__law_take T B) (hr.mono (by decide)) tk rfl T.m__law_take T.f__law_take.kp T.b__law_take (fa_dr 1 (fa_cons fe_int fa_nil)))) fl_nil)))) fl_nil)))))
 (fss_cons (fs_if (ft_cmp (cmd_ne hr) (fb_fe (fe_n (fn_lc (own := [("place", 14)]) rfl nd (fi_rng1 T.n_range (fl_cons fe_int fl_nil)) (blkOk_by (by kernel_rfl)) (fun s H C cl fp => (by apply FGc.cast; (case h => exact (fc_name (i := 14) nd (by decide))); (case q => (try dsimp only [FLG.gbx, Cx.blk, FLH.blkH]) <;> exact rfl))) (fun s H C cl fp => (by apply FTs.cast; (case h => exact (fts_one (ft_cmp cmd_lt (fb_fe (fe_call (ok_height_at T B) (hr.mono (by decide)) (takes_wf) rfl T.m_height_at T.f_height_at.kp T.b_height_at (fa_cons (fe_var 6) (fa_cons (fe_var 14) fa_nil)))) (fb_fe (fe_ix (fb_var 12) (fe_var 14)))))); (case q => (try dsimp only [FLG.gbx, Cx.blk, FLH.blkH]) <;> exact rfl))) (fun s H C cl fp => (by apply FE.cast; (case h => exact (fe_var 14)); (case q => (try dsimp only [FLG.gbx, Cx.blk, FLH.blkH]) <;> exact rfl)))))) (fb_fe (fe_n (fn_lst fl_nil))))
  (fss_one (fs_ret fe_bl))
  fss_nil)
 (fss_cons (fs_fix 3 (fs_if (ft_not (ft_truth (fb_fe (fe_call (ok__law_alike T B 3) (hr.mono (by decide)) tk rfl T.m__law_alike T.f__law_alike.kp T.b__law_alike (fa_cons (fe_call (ok_seen T B) (hr.mono (by decide)) tk rfl T.m_seen T.f_seen.kp T.b_seen (fa_cons (fe_var 3) fa_nil)) (fa_cons (fe_ty1 cal_tuple T.n_tuple (by decide +kernel) (fb_fe (fe_call (ok__law_seen T B) (hr.mono (by decide)) tk rfl T.m__law_seen T.f__law_seen.kp T.b__law_seen (fa_cons (fe_var 3) fa_nil)))) fa_nil))))))
  (fss_one (fs_ret fe_bl))
  fss_nil))
 (fss_cons (fs_fix 3 (fs_set (i := 7) nd (fe_var 3)))
 (fss_cons (fs_while po (ft_cmp (cmd_ne hr) (fb_fe (fe_n (fn_lc (own := [("k", 2)]) rfl nd (fi_rng1 T.n_range (fl_cons (fe_bi1 cal_len T.n_len PySem.boot_len (fb_var 7)) fl_nil)) (blkOk_by (by kernel_rfl)) (fun s H C cl fp => (by apply FGc.cast; (case h => exact (fc_name (i := 2) nd (by decide))); (case q => (try dsimp only [FLG.gbx, Cx.blk, FLH.blkH]) <;> exact rfl))) (fun s H C cl fp => (by apply FTs.cast; (case h => exact (fts_one (ft_notin hr (fe_var 2) (fb_fe (fe_call (ok__law_seen T B) (hr.mono (by decide)) (takes_wf) rfl T.m__law_seen T.f__law_seen.kp T.b__law_seen (fa_cons (fe_var 7) fa_nil)))))); (case q => (try dsimp only [FLG.gbx, Cx.blk, FLH.blkH]) <;> exact rfl))) (fun s H C cl fp => (by apply FE.cast; (case h => exact (fe_var 2)); (case q => (try dsimp only [FLG.gbx, Cx.blk, FLH.blkH]) <;> exact rfl)))))) (fb_fe (fe_n (fn_lst fl_nil))))
  (fss_cons (fs_set (i := 2) nd (fe_ix (fb_fe (fe_n (fn_lc (own := [("k", 2)]) rfl nd (fi_rng1 T.n_range (fl_cons (fe_bi1 cal_len T.n_len PySem.boot_len (fb_var 7)) fl_nil)) (blkOk_by (by kernel_rfl)) (fun s H C cl fp => (by apply FGc.cast; (case h => exact (fc_name (i := 2) nd (by decide))); (case q => (try dsimp only [FLG.gbx, Cx.blk, FLH.blkH]) <;> exact rfl))) (fun s H C cl fp => (by apply FTs.cast; (case h => exact (fts_one (ft_notin hr (fe_var 2) (fb_fe (fe_call (ok__law_seen T B) (hr.mono (by decide)) (takes_wf) rfl T.m__law_seen T.f__law_seen.kp T.b__law_seen (fa_cons (fe_var 7) fa_nil)))))); (case q => (try dsimp only [FLG.gbx, Cx.blk, FLH.blkH]) <;> exact rfl))) (fun s H C cl fp => (by apply FE.cast; (case h => exact (fe_var 2)); (case q => (try dsimp only [FLG.gbx, Cx.blk, FLH.blkH]) <;> exact rfl)))))) fe_int))
 (fss_one (fs_set (i := 7) nd (fe_add (fe_sl (fb_var 7) fo_none (fo_some (fe_var 2))) (fe_sl (fb_var 7) (fo_some (fe_add (fe_var 2) fe_int)) fo_none))))))
 (fss_cons (fs_if (ft_w (fw_or (ft_cmp (cmd_ne hr) (fb_fe (fe_call (ok_horizon T B) (hr.mono (by decide)) tk rfl T.m_horizon T.f_horizon.kp T.b_horizon (fa_cons (fe_var 7) fa_nil))) (fb_var 13)) (fw_or1 (ft_cmp (cmd_ne hr) (fb_fe (fe_bi1 cal_len T.n_len PySem.boot_len (fb_fe (fe_call (ok_seen T B) (hr.mono (by decide)) tk rfl T.m_seen T.f_seen.kp T.b_seen (fa_cons (fe_var 7) fa_nil))))) (fb_fe (fe_bi1 cal_len T.n_len PySem.boot_len (fb_var 7)))))))
  (fss_one (fs_ret fe_bl))
  fss_nil)
 (fss_cons (fs_set (i := 8) nd (fe_bi1 cal_sumA T.n_sum (by decide +kernel) (fb_fe (fe_n (fn_lc (own := [("begin", 5), ("end", 16), ("height", 17)]) rfl nd (fi_seq (fe_var 3)) (blkOk_by (by kernel_rfl)) (fun s H C cl fp => (by apply FGc.cast; (case h => exact (fc_tup (n := 3) rfl (fcs_cons (fc_name (i := 5) nd (by decide)) (fcs_cons (fc_name (i := 16) nd (by decide)) (fcs_cons (fc_name (i := 17) nd (by decide)) fcs_nil))))); (case q => (try dsimp only [FLG.gbx, Cx.blk, FLH.blkH]) <;> exact rfl))) (fun s H C cl fp => (by apply FTs.cast; (case h => exact fts_nil); (case q => (try dsimp only [FLG.gbx, Cx.blk, FLH.blkH]) <;> exact rfl))) (fun s H C cl fp => (by apply FE.cast; (case h => exact (fe_mul (fe_sub (fe_var 16) (fe_var 5)) (fe_var 17))); (case q => (try dsimp only [FLG.gbx, Cx.blk, FLH.blkH]) <;> exact rfl))))))))
 (fss_cons (fs_setLc (own := [("k", 2)]) (i := 9) rfl nd (fi_rng1 T.n_range (fl_cons (fe_bi1 cal_len T.n_len PySem.boot_len (fb_var 3)) fl_nil)) (blkOk_by (by kernel_rfl)) (fun s H C cl fp => (by apply FGc.cast; (case h => exact (fc_name (i := 2) nd (by decide))); (case q => (try dsimp only [FLG.gbx, Cx.blk, FLH.blkH]) <;> exact rfl))) (fun s H C cl fp => (by apply FTs.cast; (case h => exact (fts_one (ft_cmp (cmd_ne hr) (fb_fe (fe_n (fn_lc (own := [("j", 19)]) rfl nd (fi_rng1 T.n_range (fl_cons (fe_var 2) fl_nil)) (blkOk_by (by kernel_rfl)) (fun s H C cl fp => (by apply FGc.cast; (case h => exact (fc_name (i := 19) nd (by decide))); (case q => (try dsimp only [FLG.gbx, Cx.blk, FLH.blkH]) <;> exact rfl))) (fun s H C cl fp => (by apply FTs.cast; (case h => exact (fts_one (ft_w (fw_and (ft_cmp cmd_lt (fb_fe (fe_ix (fb_fe (fe_ix (fb_var 3) (fe_var 19))) fe_int)) (fb_fe (fe_ix (fb_fe (fe_ix (fb_var 3) (fe_var 2))) fe_int))) (fw_and1 (ft_cmp cmd_lt (fb_fe (fe_ix (fb_fe (fe_ix (fb_var 3) (fe_var 2))) fe_int)) (fb_fe (fe_ix (fb_fe (fe_ix (fb_var 3) (fe_var 19))) fe_int)))))))); (case q => (try dsimp only [FLG.gbx, Cx.blk, FLH.blkH]) <;> exact rfl))) (fun s H C cl fp => (by apply FE.cast; (case h => exact (fe_var 19)); (case q => (try dsimp only [FLG.gbx, Cx.blk, FLH.blkH]) <;> exact rfl)))))) (fb_fe (fe_n (fn_lst fl_nil)))))); (case q => (try dsimp only [FLG.gbx, Cx.blk, FLH.blkH]) <;> exact rfl))) (fun s H C cl fp => (by apply FE.cast; (case h => exact (fe_var 2)); (case q => (try dsimp only [FLG.gbx, Cx.blk, FLH.blkH]) <;> exact rfl))))
 (fss_cons (fs_fix 3 (fs_if (ft_w (fw_or (ft_cmp cmd_gt (fb_fe (fe_call (ok_hidden T B) (hr.mono (by decide)) tk rfl T.m_hidden T.f_hidden.kp T.b_hidden (fa_cons (fe_var 3) fa_nil))) (fb_var 8)) (fw_or1 (ft_cmp (cmd_ne hr) (fb_fe (fe_cmp (cmd_eq hr) (fb_fe (fe_call (ok_hidden T B) (hr.mono (by decide)) tk rfl T.m_hidden T.f_hidden.kp T.b_hidden (fa_cons (fe_var 3) fa_nil))) (fb_var 8))) (fb_fe (fe_cmp (cmd_eq hr) (fb_var 9) (fb_fe (fe_n (fn_lst fl_nil)))))))))
  (fss_one (fs_ret fe_bl))
  fss_nil))
 (fss_cons (fs_set (i := 10) nd (fe_n (fn_lst (fl_cons fe_non (fl_cons (fe_n (fn_list T.n_list (fb_var 3))) (fl_cons (fe_tup fl_nil) (fl_cons (fe_repA (fe_sl (fb_var 3) fo_none (fo_some fe_int)) fe_int) (fl_cons (fe_tup (fl_cons fe_non fl_nil)) (fl_cons (fe_tup (fl_cons (fe_n (fn_lst (fl_cons fe_int (fl_cons fe_int (fl_cons fe_int fl_nil))))) fl_nil)) (fl_cons (fe_tup (fl_cons (fe_tup (fl_cons fe_int (fl_cons fe_int fl_nil))) fl_nil)) (fl_cons (fe_tup (fl_cons (fe_tup (fl_cons fe_int (fl_cons fe_int (fl_cons fe_int (fl_cons fe_int fl_nil))))) fl_nil)) (fl_cons (fe_tup (fl_cons (fe_tup (fl_cons fe_int (fl_cons fe_int (fl_cons fe_int fl_nil)))) fl_nil)) (fl_cons (fe_tup (fl_cons (fe_tup (fl_cons (fe_neg fe_int) (fl_cons fe_int (fl_cons fe_int fl_nil)))) fl_nil)) (fl_cons (fe_tup (fl_cons (fe_tup (fl_cons fe_int (fl_cons fe_int (fl_cons fe_int fl_nil)))) fl_nil)) (fl_cons (fe_tup (fl_cons (fe_tup (fl_cons fe_int (fl_cons fe_int (fl_cons fe_int fl_nil)))) fl_nil)) (fl_cons (fe_tup (fl_cons (fe_tup (fl_cons fe_int (fl_cons fe_int (fl_cons fe_int fl_nil)))) fl_nil)) (fl_cons (fe_tup (fl_cons (fe_tup (fl_cons fe_bl (fl_cons fe_int (fl_cons fe_int fl_nil)))) fl_nil)) (fl_cons (fe_tup (fl_cons (fe_tup (fl_cons fe_int (fl_cons fe_int (fl_cons fe_non fl_nil)))) fl_nil)) fl_nil))))))))))))))))))
 (fss_one (fs_ret (fe_cmp (cmd_eq hr) (fb_fe (fe_n (fn_lc (own := [("value", 15)]) rfl nd (fi_seq (fe_var 10)) (blkOk_by (by kernel_rfl)) (fun s H C cl fp => (by apply FGc.cast; (case h => exact (fc_name (i := 15) nd (by decide))); (case q => (try dsimp only [FLG.gbx, Cx.blk, FLH.blkH]) <;> exact rfl))) (fun s H C cl fp => (by apply FTs.cast; (case h => exact (fts_one (ft_cmp cmd_isnot (fb_fe (fe_call (ok_are_hills T B) (hr.mono (by decide)) (takes_wf) rfl T.m_are_hills T.f_are_hills.kp T.b_are_hills (fa_cons (fe_var 15) fa_nil))) (fb_fe fe_bl)))); (case q => (try dsimp only [FLG.gbx, Cx.blk, FLH.blkH]) <;> exact rfl))) (fun s H C cl fp => (by apply FE.cast; (case h => exact (fe_var 15)); (case q => (try dsimp only [FLG.gbx, Cx.blk, FLH.blkH]) <;> exact rfl)))))) (fb_fe (fe_n (fn_lst fl_nil)))))))))))))))))))))))), ?_⟩
  clear hr tk po nd
  clear hcd
  intro ns hns hb
  walk_at "wp"
  refine ⟨ns, rfl, hns, fun ms => ⟨⟨ms, rfl⟩, by decide, by decide, fun v v0 v1 => ix_two v0 v1 fun w hw => ⟨by decide, rfl, by decide, fun n n0 n1 => ⟨⟨by omega, by omega⟩, ?_⟩⟩⟩⟩
  refine ⟨fun i s' => ∃ (xs : List Hl) (x2 x5 : Cel), (HOk xs ∧ xs.length = i) ∧ s' = [.fz (.list (ns.map .int)), .dr, x2, .ow (xs.map hD), .no, x5, .no, .no, .no, .no, .no, .fz (.int w), .no, .no, .no, .no, .no, .no, .no, .no], ⟨[], _, _, ⟨fun _ h => (by cases h), rfl⟩, rfl⟩, ?_, ?_⟩
  · rintro i d s' e ⟨xs, x2, x5, ⟨ok, hl⟩, rfl⟩
    have hi := (rng_get0 e).2
    walk_at "wp"
    refine ⟨by omega, fun b b0 b1 => ⟨by split <;> omega, fun v v0 v1 => ⟨by decide, by decide, fun u u0 u1 => ix_two u0 u1 fun h hh => ?_⟩⟩⟩
    walk_at "wp"
    refine ⟨by omega, fun z z0 z1 => ⟨by decide, by rw [List.length_map]; exact Nat.lt_of_le_of_lt (show _ ≤ 6 by omega) (by decide), xs ++ [(b, b + 1 + v, 1 + z)], .fz d, .fz (.int b), ⟨fun y hy => ?_, by rw [List.length_append, hl]; rfl⟩, ?_⟩⟩
    · rcases List.mem_append.mp hy with hy | hy
      · exact ok y hy
      · obtain rfl := List.mem_singleton.mp hy
        have : v < 100 - b := by split at v1 <;> omega
        refine ⟨b0, ?_, ?_, ?_, ?_⟩ <;> dsimp only <;> omega
    · rw [List.map_append]
      rfl
  · rintro s' ⟨xs, x2, x5, ⟨ok, hl⟩, rfl⟩
    rw [rng_len] at hl
    have l1 : 1 ≤ xs.length := by omega
    have l6 : xs.length ≤ 6 := by omega
    clear hl
    dsimp only
    refine seq_mid [.fz (.list (ns.map .int)), .dr, x2, .fz (hsD xs), .no, x5, .no, .no, .no, .no, .no, .fz (.int w), .no, .no, .no, .no, .no, .no, .no, .no] (fun N hN => ?_) ?_
    · walk_at "wp"
      exact hN
    refine seq_mid [.fz (.list (ns.map .int)), .dr, x2, .fz (hsD xs), .no, x5, .no, .no, .no, .no, .no, .fz (.int w), .no, .no, .no, .no, .no, .no, .no, .no] (fun N hN => ?_) ?_
    · walk_at "wp"
      rw [hills_ok ok l1 (by omega)]
      walk_at "wp"
      exact ⟨trivial, hN⟩
    refine seq_mid [.fz (.list (ns.map .int)), .dr, x2, .fz (hsD xs), .no, x5, .no, .no, .no, .no, .no, .fz (.int w), .fz (.list (hts xs)), .fz (chD (CH (hgt xs) 102)), .no, .no, .no, .no, .no, .no] (fun N hN => ?_) ?_
    · walk_at "wp"
      exact ⟨xs, rfl, ⟨ok, by omega⟩, xs, rfl, ⟨ok, by omega⟩, by decide, rfl, rfl, hN⟩
    refine seq_mid [.fz (.list (ns.map .int)), .dr, x2, .fz (hsD xs), .no, x5, .no, .no, .no, .no, .no, .fz (.int w), .fz (.list (hts xs)), .fz (chD (CH (hgt xs) 102)), .no, .no, .no, .no, .no, .no] (fun N hN => ?_) ?_
    · unfold hsD at hN ⊢
      walk_at "wp"
      refine ⟨xs, rfl, ⟨ok, by omega⟩, ?_⟩
      walk_at "wp"
      refine ⟨xs.reverse, by unfold hsD; rw [List.map_reverse], ⟨ok.rev, by rw [List.length_reverse]; omega⟩, xs, rfl, ⟨ok, by omega⟩, by decide, (List.range 102).map fun p : Nat => hgt xs p, ?_, by decide, ?_⟩
      · unfold hts tab
        rw [List.map_map]
        rfl
      rw [hgt_rev, sum_102 ok]
      obtain ⟨m, m1, m2⟩ : ∃ m : Int, m ∈ xs.map (fun x => x.1) ∧ ∀ y ∈ xs.map (fun x => x.1), m ≤ y := by
        cases xs with
        | nil => cases l1
        | cons x xs =>
          have := fold_min x.1 (xs.map fun x => x.1)
          exact ⟨_, this.1, this.2⟩
      obtain ⟨v, r, ech⟩ := ch_head ok m1 m2
      have cl := ch_len ok
      have clast := ch_last ok
      generalize CH (hgt xs) 102 = C at *
      have okd : okS 3 (.list [chD C, chD C, .int (Sm (hgt xs) 100)]) := by
        have c1 : okS 2 (chD C) := by
          refine ⟨by rw [List.length_map]; exact Nat.le_trans (show _ ≤ 12 by omega) (by decide), fun d hd => ?_⟩
          obtain ⟨x, _, rfl⟩ := List.mem_map.mp hd
          exact ⟨show 2 ≤ sizeLine by decide, fun d hd => by
            simp only [List.mem_cons, List.not_mem_nil, or_false] at hd
            rcases hd with rfl | rfl <;> trivial⟩
        refine ⟨show 3 ≤ sizeLine by decide, fun d hd => ?_⟩
        simp only [List.mem_cons, List.not_mem_nil, or_false] at hd
        rcases hd with rfl | rfl | rfl
        · exact c1
        · exact c1
        · trivial
      refine ⟨_, rfl, okd, trivial, ?_⟩
      unfold chD at hN ⊢
      walk_at "wp"
      rw [List.length_map, List.length_map]
      refine ⟨mul_l (by decide) (by decide), FL.cond_f (decide_eq_false (by omega)) ?_⟩
      cases el : C.getLast? with
      | none =>
        rw [List.getLast?_eq_none_iff.mp el] at ech
        cases ech
      | some z =>
        refine ix_last (d := prI z) (by rw [List.getLast?_map, el]; rfl) ⟨_, atI_nat (j := 1) rfl, .inl rfl, ?_⟩
        have z2 : z.2 = 0 := by
          unfold lastV at clast
          rw [el] at clast
          exact clast
        rw [ev_ii, z2]
        refine FL.cond_f rfl ⟨prI (m, v), by rw [ech]; exact atI_nat (j := 0) rfl, ⟨_, atI_nat (j := 0) rfl, ?_⟩⟩
        refine lc_map (fun d => match d with | .tuple [a, b, c] => a | d => d) (by rw [List.length_map]; exact Nat.le_trans (show _ ≤ 6 by omega) (by decide)) (fun d hd acc J hJ => ?_) ?_
        · obtain ⟨x, hx, rfl⟩ := List.mem_map.mp hd
          rw [show hD x = .tuple [.int x.1, .int x.2.1, .int x.2.2] from rfl] at hJ ⊢
          walk_at "wp"
          exact ⟨_, atI_nat (j := 0) rfl, hJ⟩
        · refine ⟨xs.map fun x => x.1, by rw [List.map_map, List.map_map]; rfl, by rw [List.length_map]; omega, fun y y1 y2 => ?_⟩
          have : m = y := Int.le_antisymm (m2 y y1) (y2 m m1)
          subst this
          refine ⟨.inl rfl, ?_⟩
          rw [ev_ii, decide_eq_true rfl]
          exact FL.cond_f rfl hN
    refine seq_midP (fun s => ∃ x4 x14 : Cel, s = [.fz (.list (ns.map .int)), .dr, x2, .fz (hsD xs), x4, x5, .no, .no, .no, .no, .no, .fz (.int w), .fz (.list (hts xs)), .fz (chD (CH (hgt xs) 102)), x14, .no, .no, .no, .no, .no]) (fun N hN => ?_) ?_
    · walk_at "wp"
      refine ⟨⟨by decide, by decide⟩, fun i s' => ∃ x4 x14 : Cel, s' = [.fz (.list (ns.map .int)), .dr, x2, .fz (hsD xs), x4, x5, .no, .no, .no, .no, .no, .fz (.int w), .fz (.list (hts xs)), .fz (chD (CH (hgt xs) 102)), x14, .no, .no, .no, .no, .no], ⟨_, _, rfl⟩, ?_, fun s' h => hN _ h⟩
      rintro i d s' e ⟨x4, x14, rfl⟩
      walk_at "wp"
      refine ⟨by decide, fun p p0 p1 => ?_⟩
      obtain ⟨k, rfl⟩ := Int.eq_ofNat_of_zero_le p0
      refine ⟨xs, _, rfl, ⟨by omega, fun x hx => by have := ok x hx; omega⟩, ix_nat (tab_at (k := k) (by omega)) ⟨_, rfl, trivial, trivial, _, _, rfl⟩⟩
    rintro s ⟨x4, x14, rfl⟩
    refine seq_midP (fun s => ∃ b : Int, (0 ≤ b ∧ b < 100) ∧ s = [.fz (.list (ns.map .int)), .dr, x2, .fz (hsD xs), x4, .fz (.int b), .no, .no, .no, .no, .no, .fz (.int w), .fz (.list (hts xs)), .fz (chD (CH (hgt xs) 102)), x14, .no, .no, .no, .no, .no]) (fun N hN => ?_) ?_
    · walk_at "wp"
      exact ⟨by decide, fun b b0 b1 => hN _ ⟨b, ⟨b0, b1⟩, rfl⟩⟩
    rintro s ⟨b, ⟨b0, b1⟩, rfl⟩
    refine seq_midP (fun s => ∃ y : Hl, HOk [y] ∧ s = [.fz (.list (ns.map .int)), .dr, x2, .fz (hsD xs), x4, .fz (.int b), .fz (hsD (xs ++ [y])), .no, .no, .no, .no, .fz (.int w), .fz (.list (hts xs)), .fz (chD (CH (hgt xs) 102)), x14, .no, .no, .no, .no, .no]) (fun N hN => ?_) ?_
    · unfold hsD at hN ⊢
      walk_at "wp"
      refine ⟨by omega, fun v v0 v1 => ⟨by decide, fun u u0 u1 => ⟨by decide, by decide, by rw [List.length_map]; exact Nat.le_trans (show _ ≤ 7 from Nat.succ_le_succ l6) (by decide), hN _ ⟨(b, b + 1 + v, 1 + u), fun y hy => ?_, by rw [List.map_append]; rfl⟩⟩⟩⟩
      obtain rfl := List.mem_singleton.mp hy
      refine ⟨b0, ?_, ?_, ?_, ?_⟩ <;> dsimp only <;> omega
    rintro s ⟨y, oky, rfl⟩
    have okx : HOk (xs ++ [y]) := fun z hz => by
      rcases List.mem_append.mp hz with hz | hz
      · exact ok z hz
      · exact oky z hz
    refine seq_mid [.fz (.list (ns.map .int)), .dr, x2, .fz (hsD xs), x4, .fz (.int b), .fz (hsD (xs ++ [y])), .no, .no, .no, .no, .fz (.int w), .fz (.list (hts xs)), .fz (chD (CH (hgt xs) 102)), x14, .no, .no, .no, .no, .no] (fun N hN => ?_) ?_
    · walk_at "wp"
      refine ⟨⟨by decide, by decide⟩, lc_fm (fun _ => none) (by decide) (fun d hd acc J h1 h2 => ?_) ?_⟩
      · obtain ⟨k, hk, rfl⟩ := mem_rng hd
        walk_at "wp"
        refine ⟨xs ++ [y], _, rfl, ⟨by rw [List.length_append]; show _ + 1 ≤ 20; omega, fun x hx => by have := okx x hx; omega⟩, ix_nat (tab_at (k := k) (by omega)) ?_⟩
        have := hgt_sub (p := (k : Int)) (xs := xs) (ys := xs ++ [y]) fun z hz => List.mem_append_left _ hz
        exact FL.cond_f (decide_eq_false (by omega)) (h1 rfl)
      · rw [none_nil]
        refine ⟨by decide, sh_eq sh_nilL sh_nilL, ?_⟩
        rw [ev_lnil]
        exact FL.cond_f rfl hN
    clear okx oky
    generalize hsD (xs ++ [y]) = mo
    generalize PyData.int b = x5
    refine seq_mid [.fz (.list (ns.map .int)), .dr, x2, .fz (hsD xs), x4, .fz x5, .fz mo, .no, .no, .no, .no, .fz (.int w), .fz (.list (hts xs)), .fz (chD (CH (hgt xs) 102)), x14, .no, .no, .no, .no, .no] (fun N hN => ?_) ?_
    · walk_at "wp"
      refine ⟨xs, rfl, ⟨ok, by omega⟩, xs, rfl, ⟨ok, by omega⟩, .tuple (natsD (seenL xs)), rfl, ⟨?_, fun d hd => ?_⟩, trivial, hN⟩
      · exact Nat.le_trans (seen_len xs) (Nat.le_trans l6 (by decide))
      · obtain ⟨k, _, rfl⟩ := List.mem_map.mp hd
        trivial
    refine seq_mid [.fz (.list (ns.map .int)), .dr, x2, .fz (hsD xs), x4, .fz x5, .fz mo, .fz (hsD xs), .no, .no, .no, .fz (.int w), .fz (.list (hts xs)), .fz (chD (CH (hgt xs) 102)), x14, .no, .no, .no, .no, .no] (fun N hN => ?_) ?_
    · walk_at "wp"
      exact hN
    refine seq_midP (fun s => ∃ (ys : List Hl) (x2 : Cel), (HOk ys ∧ ys.length ≤ 6 ∧ (∀ p, hgt ys p = hgt xs p) ∧ ∀ k, k < ys.length → vis ys k = true) ∧ s = [.fz (.list (ns.map .int)), .dr, x2, .fz (hsD xs), x4, .fz x5, .fz mo, .fz (hsD ys), .no, .no, .no, .fz (.int w), .fz (.list (hts xs)), .fz (chD (CH (hgt xs) 102)), x14, .no, .no, .no, .no, .no]) (fun N hN => ?_) ?_
    · refine ⟨fun m s' => ∃ (ys : List Hl) (x2 : Cel), (HOk ys ∧ ys.length ≤ 6 ∧ (∀ p, hgt ys p = hgt xs p) ∧ ys.length = m) ∧ s' = [.fz (.list (ns.map .int)), .dr, x2, .fz (hsD xs), x4, .fz x5, .fz mo, .fz (hsD ys), .no, .no, .no, .fz (.int w), .fz (.list (hts xs)), .fz (chD (CH (hgt xs) 102)), x14, .no, .no, .no, .no, .no], ⟨_, xs, x2, ⟨ok, l6, fun _ => rfl, rfl⟩, rfl⟩, ?_⟩
      rintro m s' ⟨ys, x2, ⟨oky, y6, he, rfl⟩, rfl⟩
      have lcu : ∀ Q : List D → Prop, Q (natsD (unseenL ys)) → wLcL (wgName 2) (wCmpT (dIn fun b => !b) (wVar 2) (wCall sp__law_seen (wACons (wVar 7) wANil))) (wVar 2) [2] (rngD 0 ys.length) [.fz (.list (ns.map .int)), .dr, x2, .fz (hsD xs), x4, .fz x5, .fz mo, .fz (hsD ys), .no, .no, .no, .fz (.int w), .fz (.list (hts xs)), .fz (chD (CH (hgt xs) 102)), x14, .no, .no, .no, .no, .no] Q := by
        intro Q hQ
        refine lc_filter (fun d => match d with | .int k => !vis ys k.toNat | _ => false) (by rw [rng_len]; exact Nat.le_trans y6 (by decide)) (fun d hd acc J h1 h2 => ?_) ?_
        · obtain ⟨k, hk, rfl⟩ := mem_rng hd
          walk_at "wp"
          refine ⟨ys, rfl, ⟨oky, by omega⟩, nats_inOk _ _, ?_⟩
          have e : inD (.int (k : Int)) (natsD (seenL ys)) = vis ys k := by
            rw [nats_in]
            unfold seenL
            cases hv : vis ys k <;> simp [hk, hv]
          rw [e]
          exact FL.cond_of (fun z => h2 z) fun z => h1 z
        · rw [rng_filt]
          exact hQ
      unfold hsD at lcu ⊢
      walk_at "wp"
      rw [List.length_map, Int.toNat_natCast]
      refine ⟨⟨by omega, by omega⟩, lcu _ ⟨by decide, sh_eq (nats_sh _) sh_nilL, ?_⟩⟩
      rw [nats_nil, FL.cond_not]
      refine FL.cond_of (fun z => ?_) fun z => ⟨⟨by omega, by omega⟩, lcu _ ?_⟩
      · refine hN _ ⟨ys, x2, ⟨oky, y6, he, fun k hk => ?_⟩, rfl⟩
        have := List.filter_eq_nil_iff.mp (of_decide_eq_true z) k (List.mem_range.mpr hk)
        simpa using this
      · cases eu : unseenL ys with
        | nil => exact absurd eu (of_decide_eq_false z)
        | cons k ks =>
          have hk : k ∈ unseenL ys := by rw [eu]; exact List.mem_cons_self
          unfold unseenL at hk
          obtain ⟨hk1, hk2⟩ := List.mem_filter.mp hk
          replace hk1 := List.mem_range.mp hk1
          have hv : vis ys k = false := by simpa using hk2
          have hc := cut_length hk1
          refine ⟨_, atI_nat (j := 0) rfl, ?_⟩
          dsimp only
          have e1 : cutL (ys.map hD) none (some (k : Int)) ++ cutL (ys.map hD) (some ((k : Int) + 1)) none = (cutAt ys k).map hD := by
            rw [cut_take, show ((k : Int) + 1) = ((k + 1 : Nat) : Int) by omega, cut_drop, ← List.map_take, ← List.map_drop, ← List.map_append]
            rfl
          have l2 := congrArg List.length e1
          rw [List.length_append, List.length_map] at l2
          refine ⟨by rw [l2]; exact Nat.le_trans (show _ ≤ 11 by omega) (by decide), (cutAt ys k).length, by omega, cutAt ys k, .fz (.int k), ⟨cut_ok oky k, by omega, fun p => by rw [unseen hk1 hv p, he p], rfl⟩, by rw [e1]⟩
    rintro s ⟨ys, x2, ⟨oky, y6, he, hv⟩, rfl⟩
    refine seq_mid [.fz (.list (ns.map .int)), .dr, x2, .fz (hsD xs), x4, .fz x5, .fz mo, .fz (hsD ys), .no, .no, .no, .fz (.int w), .fz (.list (hts xs)), .fz (chD (CH (hgt xs) 102)), x14, .no, .no, .no, .no, .no] (fun N hN => ?_) ?_
    · walk_at "wp"
      have lc : ∀ zs : List Hl, HOk zs → zs.length ≤ 6 → SeqAt.shaped (chD (CH (hgt zs) 102)) = true := fun zs okz _ => sh_ok (n := 2) (sh_t fun d hd => by
        obtain ⟨x, _, rfl⟩ := List.mem_map.mp hd
        exact sh_t fun d hd => by
          simp only [List.mem_cons, List.not_mem_nil, or_false] at hd
          rcases hd with rfl | rfl <;> exact sh_i)
      refine ⟨ys, rfl, ⟨oky, by omega⟩, ?_⟩
      rw [hgt_fun he]
      refine ⟨.inr ⟨lc xs ok l6, lc xs ok l6⟩, ?_⟩
      have er : PyData.eqv (chD (CH (hgt xs) 102)) (chD (CH (hgt xs) 102)) = true := by
        have := lc xs ok l6
        unfold SeqAt.shaped at this
        exact SeqAt.eqv_refl _ (Bool.and_eq_true_iff.mp this).1
      rw [er]
      refine FL.cond_f rfl ⟨ys, rfl, ⟨oky, by omega⟩, ?_⟩
      rw [all_seen hv, nats_len, List.length_range]
      unfold hsD at hN ⊢
      dsimp only
      rw [List.length_map]
      refine ⟨.inl rfl, ?_⟩
      rw [ev_ii, decide_eq_true rfl]
      exact FL.cond_f rfl hN
    refine seq_mid [.fz (.list (ns.map .int)), .dr, x2, .fz (hsD xs), x4, .fz x5, .fz mo, .fz (hsD ys), .fz (.int (areaI xs)), .no, .no, .fz (.int w), .fz (.list (hts xs)), .fz (chD (CH (hgt xs) 102)), x14, .no, .no, .no, .no, .no] (fun N hN => ?_) ?_
    · unfold hsD at hN ⊢
      walk_at "wp"
      refine lc_map (fun d => match d with | .tuple [.int a, .int b, .int c] => .int ((b - a) * c) | d => d) (by rw [List.length_map]; exact Nat.le_trans l6 (by decide)) (fun d hd acc J hJ => ?_) ?_
      · obtain ⟨x, hx, rfl⟩ := List.mem_map.mp hd
        have := ok x hx
        rw [show hD x = .tuple [.int x.1, .int x.2.1, .int x.2.2] from rfl] at hJ ⊢
        walk_at "wp"
        exact ⟨rfl, rfl, mul_l (by omega) (by omega), hJ⟩
      · exact ⟨xs.map fun x : Hl => (x.2.1 - x.1) * x.2.2, by rw [List.map_map, List.map_map]; rfl, hN⟩
    refine seq_mid [.fz (.list (ns.map .int)), .dr, x2, .fz (hsD xs), x4, .fz x5, .fz mo, .fz (hsD ys), .fz (.int (areaI xs)), .fz (.list (natsD (shar xs))), .no, .fz (.int w), .fz (.list (hts xs)), .fz (chD (CH (hgt xs) 102)), x14, .no, .no, .no, .no, .no] (fun N hN => ?_) ?_
    · unfold hsD at hN ⊢
      walk_at "wp"
      rw [List.length_map, Int.toNat_natCast]
      refine ⟨⟨by omega, by omega⟩, ?_⟩
      refine lc_filter (fun d => match d with | .int k => !decide (ovl xs k.toNat = []) | _ => false) (by rw [rng_len]; exact Nat.le_trans l6 (by decide)) (fun d hd acc J h1 h2 => ?_) ?_
      · obtain ⟨k, hk, rfl⟩ := mem_rng hd
        walk_at "wp"
        dsimp only at h1 h2
        rw [Int.toNat_natCast] at h1 h2
        have atk : (xs.map hD)[k]? = some (hD xs[k]) := by rw [List.getElem?_map, List.getElem?_eq_getElem hk]; rfl
        rw [Int.toNat_natCast]
        refine ⟨⟨by omega, by omega⟩, ?_⟩
        refine lc_filter (fun d => match d with | .int j => ovB xs j.toNat k | _ => false) (by rw [rng_len]; exact Nat.le_trans (show k ≤ 6 by omega) (by decide)) (fun d hd acc' J' g1 g2 => ?_) ?_
        · obtain ⟨j, hj, rfl⟩ := mem_rng hd
          have hj' : j < xs.length := by omega
          have atj : (xs.map hD)[j]? = some (hD xs[j]) := by rw [List.getElem?_map, List.getElem?_eq_getElem hj']; rfl
          have e : ovB xs j k = (decide (xs[j].1 < xs[k].2.1) && decide (xs[k].1 < xs[j].2.1)) := by
            unfold ovB
            rw [List.getElem?_eq_getElem hj', List.getElem?_eq_getElem hk]
          dsimp only at g1 g2
          rw [Int.toNat_natCast, e] at g1 g2
          walk_at "wp"
          refine ⟨_, atI_nat atj, _, atI_nat (j := 0) rfl, _, atI_nat atk, _, atI_nat (j := 1) rfl, ?_⟩
          walk_at "wp"
          refine FL.cond_of (fun z => ⟨_, atI_nat atk, _, atI_nat (j := 0) rfl, _, atI_nat atj, _, atI_nat (j := 1) rfl, ?_⟩) fun z => g1 (by rw [z]; rfl)
          rw [z, Bool.true_and] at g1 g2
          walk_at "wp"
          exact FL.cond_of (fun z => g2 z) fun z => g1 z
        · rw [rng_filt]
          have e : ((List.range k).filter fun j : Nat => ovB xs (Int.toNat (j : Nat)) k) = ovl xs k := rfl
          dsimp only
          rw [e]
          refine ⟨by decide, sh_eq (nats_sh _) sh_nilL, ?_⟩
          rw [nats_nil]
          exact FL.cond_of (fun z => h2 z) fun z => h1 z
      · rw [rng_filt]
        exact hN
    obtain ⟨ar1, ar2⟩ := area_is xs ok
    refine seq_mid [.fz (.list (ns.map .int)), .dr, x2, .fz (hsD xs), x4, .fz x5, .fz mo, .fz (hsD ys), .fz (.int (areaI xs)), .fz (.list (natsD (shar xs))), .no, .fz (.int w), .fz (.list (hts xs)), .fz (chD (CH (hgt xs) 102)), x14, .no, .no, .no, .no, .no] (fun N hN => ?_) ?_
    · walk_at "wp"
      refine ⟨xs, rfl, ⟨ok, by omega⟩, FL.cond_f (decide_eq_false (by omega)) ⟨xs, rfl, ⟨ok, by omega⟩, .inl rfl, by decide, sh_eq (nats_sh _) sh_nilL, ?_⟩⟩
      rw [nats_nil, ev_ii, decide_eq_decide.mpr (ar2.trans (shar_nil xs).symm)]
      refine ⟨.inl rfl, ?_⟩
      rw [ev_bb, decide_eq_true rfl]
      exact FL.cond_f rfl hN
    clear ar1 ar2
    refine seq_midP (fun s => ∃ (vs : List D) (x15 : Cel), (vs.length = 15 ∧ ∀ d ∈ vs, hillsB d = false) ∧ s = [.fz (.list (ns.map .int)), .dr, x2, .fz (hsD xs), x4, .fz x5, .fz mo, .fz (hsD ys), .fz (.int (areaI xs)), .fz (.list (natsD (shar xs))), .fz (.list vs), .fz (.int w), .fz (.list (hts xs)), .fz (chD (CH (hgt xs) 102)), x14, .no, .no, .no, .no, .no]) (fun N hN => ?_) ?_
    · unfold hsD at hN ⊢
      walk_at "wp"
      have ct : cutL (xs.map hD) none (some 1) = (xs.map hD).take 1 := cut_take _ 1
      rw [ct]
      have l11 : (List.replicate 11 ((xs.map hD).take 1)).flatten.length = 11 := by
        rw [List.length_flatten, List.map_replicate, List.length_take, List.length_map, show min 1 xs.length = 1 by omega]
        rfl
      refine ⟨by decide, ⟨by decide, by decide, by rw [List.length_take]; omega⟩, ?_⟩
      repeat refine ⟨by decide, ?_⟩
      refine hN _ ⟨_, .no, ⟨rfl, fun d hd => ?_⟩, rfl⟩
      simp only [List.mem_cons, List.not_mem_nil, or_false] at hd
      rcases hd with rfl | rfl | rfl | rfl | rfl | rfl | rfl | rfl | rfl | rfl | rfl | rfl | rfl | rfl | rfl
      case inr.inr.inr.inl =>
        show (decide (1 ≤ _) && decide (_ ≤ 10) && _) = false
        rw [show Int.toNat 11 = 11 from rfl, l11]
        rfl
      all_goals rfl
    rintro s ⟨vs, x15, ⟨vl, vb⟩, rfl⟩
    walk_at "wp"
    refine lc_fm (fun _ => none) (by rw [vl]; decide) (fun d hd acc J h1 h2 => ?_) ?_
    · walk_at "wp"
      rw [vb d hd]
      exact h1 rfl
    · rw [none_nil]
      refine ⟨by decide, sh_eq sh_nilL sh_nilL, ?_⟩
      rw [ev_lnil]
      rfl

end
theorem txt_mk {K : PySem.W.Frag} {h : Heap} {mg : Str → Option Value} (X : K.In h) (G : h.Ns mainGlobals mg)
    {od0 an0 od1 an1 od2 an2 od3 an3 od4 an4 od5 an5 od6 an6 od7 an7 od8 an8 od9 an9 od10 an10 od11 an11 od12 an12 od13 an13 od14 an14 : Option Addr} {sl0 sl1 sl2 sl3 sl4 sl5 sl6 sl7 sl8 sl9 sl10 sl11 sl12 sl13 sl14 : Array (Option Value)} {oc0 kV0 dc0 pm0 ct0 cd0 oc1 kV1 dc1 pm1 ct1 oc2 kV2 dc2 pm2 ct2 oc3 kV3 dc3 pm3 ct3 cd3 oc4 kV4 dc4 pm4 ct4 cd4 oc5 kV5 dc5 pm5 ct5 oc6 kV6 dc6 pm6 ct6 cd6 oc7 kV7 dc7 pm7 ct7 cd7 oc8 kV8 dc8 pm8 ct8 cd8 oc9 kV9 dc9 pm9 ct9 cd9 oc10 kV10 dc10 pm10 ct10 cd10 oc11 kV11 dc11 pm11 ct11 cd11 oc12 kV12 dc12 pm12 ct12 cd12 oc13 kV13 dc13 pm13 ct13 cd13 oc14 kV14 dc14 pm14 ct14 cd14 : Value}
    {f0 f1 f2 f3 f4 f5 f6 f7 f8 f9 f10 f11 f12 f13 f14 : Addr} {gc1 gp1 gc2 gp2 gc5 gp5 : Addr} {gd1 gd2 gd5 : Option Addr} {go1 go2 go5 : Value} {gv1 gv2 gv5 : Array Value} {gs1 gs2 gs5 : Array (Option Value)}
    {tk1 tk2 tk3 : Tok}
    (a0 : PySem.W.nsIn K mainGlobals "is_number" = some (some (.ref f0))) (l0 : K.lookup f0 = some ⟨oc0, od0, .func (PySem.W.fnOf "is_number" "is_number" (defArgs s_is_number) (defBody s_is_number) (defScope s_is_number) .none kV0 dc0 pm0 an0 cd0 ct0), sl0⟩) (c0 : PySem.W.codeIn K cd0 "is_number" = true) (k0 : PySem.W.keepIn K (.ref f0) = true)
    (a1 : PySem.W.nsIn K mainGlobals "is_hill" = some (some (.ref f1))) (l1 : K.lookup f1 = some ⟨oc1, od1, .func (PySem.W.fnOf "is_hill" "is_hill" (defArgs s_is_hill) (defBody s_is_hill) (defScope s_is_hill) .none kV1 dc1 pm1 an1 (.ref gc1) ct1), sl1⟩) (c1 : PySem.W.codeIn K (.ref gc1) "is_hill" = true) (k1 : PySem.W.keepIn K (.ref f1) = true)
    (a2 : PySem.W.nsIn K mainGlobals "are_hills" = some (some (.ref f2))) (l2 : K.lookup f2 = some ⟨oc2, od2, .func (PySem.W.fnOf "are_hills" "are_hills" (defArgs s_are_hills) (defBody s_are_hills) (defScope s_are_hills) .none kV2 dc2 pm2 an2 (.ref gc2) ct2), sl2⟩) (c2 : PySem.W.codeIn K (.ref gc2) "are_hills" = true) (k2 : PySem.W.keepIn K (.ref f2) = true)
    (a3 : PySem.W.nsIn K mainGlobals "height_at" = some (some (.ref f3))) (l3 : K.lookup f3 = some ⟨oc3, od3, .func (PySem.W.fnOf "height_at" "height_at" (defArgs s_height_at) (defBody s_height_at) (defScope s_height_at) .none kV3 dc3 pm3 an3 cd3 ct3), sl3⟩) (c3 : PySem.W.codeIn K cd3 "height_at" = true) (k3 : PySem.W.keepIn K (.ref f3) = true)
    (a4 : PySem.W.nsIn K mainGlobals "horizon" = some (some (.ref f4))) (l4 : K.lookup f4 = some ⟨oc4, od4, .func (PySem.W.fnOf "horizon" "horizon" (defArgs s_horizon) (defBody s_horizon) (defScope s_horizon) .none kV4 dc4 pm4 an4 cd4 ct4), sl4⟩) (c4 : PySem.W.codeIn K cd4 "horizon" = true) (k4 : PySem.W.keepIn K (.ref f4) = true)
    (a5 : PySem.W.nsIn K mainGlobals "seen" = some (some (.ref f5))) (l5 : K.lookup f5 = some ⟨oc5, od5, .func (PySem.W.fnOf "seen" "seen" (defArgs s_seen) (defBody s_seen) (defScope s_seen) .none kV5 dc5 pm5 an5 (.ref gc5) ct5), sl5⟩) (c5 : PySem.W.codeIn K (.ref gc5) "seen" = true) (k5 : PySem.W.keepIn K (.ref f5) = true)
    (a6 : PySem.W.nsIn K mainGlobals "hidden" = some (some (.ref f6))) (l6 : K.lookup f6 = some ⟨oc6, od6, .func (PySem.W.fnOf "hidden" "hidden" (defArgs s_hidden) (defBody s_hidden) (defScope s_hidden) .none kV6 dc6 pm6 an6 cd6 ct6), sl6⟩) (c6 : PySem.W.codeIn K cd6 "hidden" = true) (k6 : PySem.W.keepIn K (.ref f6) = true)
    (a7 : PySem.W.nsIn K mainGlobals "_law_draws" = some (some (.ref f7))) (l7 : K.lookup f7 = some ⟨oc7, od7, .func (PySem.W.fnOf "_law_draws" "_law_draws" (defArgs s__law_draws) (defBody s__law_draws) (defScope s__law_draws) .none kV7 dc7 pm7 an7 cd7 ct7), sl7⟩) (c7 : PySem.W.codeIn K cd7 "_law_draws" = true) (k7 : PySem.W.keepIn K (.ref f7) = true)
    (a8 : PySem.W.nsIn K mainGlobals "_law_take" = some (some (.ref f8))) (l8 : K.lookup f8 = some ⟨oc8, od8, .func (PySem.W.fnOf "_law_take" "_law_take" (defArgs s__law_take) (defBody s__law_take) (defScope s__law_take) .none kV8 dc8 pm8 an8 cd8 ct8), sl8⟩) (c8 : PySem.W.codeIn K cd8 "_law_take" = true) (k8 : PySem.W.keepIn K (.ref f8) = true)
    (a9 : PySem.W.nsIn K mainGlobals "_law_says" = some (some (.ref f9))) (l9 : K.lookup f9 = some ⟨oc9, od9, .func (PySem.W.fnOf "_law_says" "_law_says" (defArgs s__law_says) (defBody s__law_says) (defScope s__law_says) .none kV9 dc9 pm9 an9 cd9 ct9), sl9⟩) (c9 : PySem.W.codeIn K cd9 "_law_says" = true) (k9 : PySem.W.keepIn K (.ref f9) = true)
    (a10 : PySem.W.nsIn K mainGlobals "_law_alike" = some (some (.ref f10))) (l10 : K.lookup f10 = some ⟨oc10, od10, .func (PySem.W.fnOf "_law_alike" "_law_alike" (defArgs s__law_alike) (defBody s__law_alike) (defScope s__law_alike) .none kV10 dc10 pm10 an10 cd10 ct10), sl10⟩) (c10 : PySem.W.codeIn K cd10 "_law_alike" = true) (k10 : PySem.W.keepIn K (.ref f10) = true)
    (a11 : PySem.W.nsIn K mainGlobals "_law_heights" = some (some (.ref f11))) (l11 : K.lookup f11 = some ⟨oc11, od11, .func (PySem.W.fnOf "_law_heights" "_law_heights" (defArgs s__law_heights) (defBody s__law_heights) (defScope s__law_heights) .none kV11 dc11 pm11 an11 cd11 ct11), sl11⟩) (c11 : PySem.W.codeIn K cd11 "_law_heights" = true) (k11 : PySem.W.keepIn K (.ref f11) = true)
    (a12 : PySem.W.nsIn K mainGlobals "_law_horizon" = some (some (.ref f12))) (l12 : K.lookup f12 = some ⟨oc12, od12, .func (PySem.W.fnOf "_law_horizon" "_law_horizon" (defArgs s__law_horizon) (defBody s__law_horizon) (defScope s__law_horizon) .none kV12 dc12 pm12 an12 cd12 ct12), sl12⟩) (c12 : PySem.W.codeIn K cd12 "_law_horizon" = true) (k12 : PySem.W.keepIn K (.ref f12) = true)
    (a13 : PySem.W.nsIn K mainGlobals "_law_seen" = some (some (.ref f13))) (l13 : K.lookup f13 = some ⟨oc13, od13, .func (PySem.W.fnOf "_law_seen" "_law_seen" (defArgs s__law_seen) (defBody s__law_seen) (defScope s__law_seen) .none kV13 dc13 pm13 an13 cd13 ct13), sl13⟩) (c13 : PySem.W.codeIn K cd13 "_law_seen" = true) (k13 : PySem.W.keepIn K (.ref f13) = true)
    (a14 : PySem.W.nsIn K mainGlobals "law" = some (some (.ref f14))) (l14 : K.lookup f14 = some ⟨oc14, od14, .func (PySem.W.fnOf "law" "law" (defArgs s_law) (defBody s_law) (defScope s_law) .none kV14 dc14 pm14 an14 cd14 ct14), sl14⟩) (c14 : PySem.W.codeIn K cd14 "law" = true) (k14 : PySem.W.keepIn K (.ref f14) = true)
    (z0 : PySem.W.nsIn K mainGlobals "abs" = some none)
    (z1 : PySem.W.nsIn K mainGlobals "all" = some none)
    (z2 : PySem.W.nsIn K mainGlobals "any" = some none)
    (z3 : PySem.W.nsIn K mainGlobals "bool" = some none)
    (z4 : PySem.W.nsIn K mainGlobals "enumerate" = some none)
    (z5 : PySem.W.nsIn K mainGlobals "int" = some none)
    (z6 : PySem.W.nsIn K mainGlobals "isinstance" = some none)
    (z7 : PySem.W.nsIn K mainGlobals "len" = some none)
    (z8 : PySem.W.nsIn K mainGlobals "list" = some none)
    (z9 : PySem.W.nsIn K mainGlobals "max" = some none)
    (z10 : PySem.W.nsIn K mainGlobals "min" = some none)
    (z11 : PySem.W.nsIn K mainGlobals "range" = some none)
    (z12 : PySem.W.nsIn K mainGlobals "reversed" = some none)
    (z13 : PySem.W.nsIn K mainGlobals "sorted" = some none)
    (z14 : PySem.W.nsIn K mainGlobals "str" = some none)
    (z15 : PySem.W.nsIn K mainGlobals "sum" = some none)
    (z16 : PySem.W.nsIn K mainGlobals "tuple" = some none)
    (g1 : K.lookup gc1 = some ⟨go1, gd1, .fields gv1, gs1⟩) (v1 : gv1[11]? = some (.ref gp1)) (u1 : K.lookup gp1 = none)
    (g2 : K.lookup gc2 = some ⟨go2, gd2, .fields gv2, gs2⟩) (v2 : gv2[11]? = some (.ref gp2)) (u2 : K.lookup gp2 = none)
    (g5 : K.lookup gc5 = some ⟨go5, gd5, .fields gv5, gs5⟩) (v5 : gv5[11]? = some (.ref gp5)) (u5 : K.lookup gp5 = none)
    (cx_MOST_HEIGHT : PySem.W.nsIn K mainGlobals "MOST_HEIGHT" = some (some (.int 50 tk1)))
    (cx_MOST_PLACE : PySem.W.nsIn K mainGlobals "MOST_PLACE" = some (some (.int 100 tk2)))
    (cx_MOST_HILLS : PySem.W.nsIn K mainGlobals "MOST_HILLS" = some (some (.int 10 tk3))) :
    Txt K mg ⟨f0, PySem.W.fnOf "is_number" "is_number" (defArgs s_is_number) (defBody s_is_number) (defScope s_is_number) .none kV0 dc0 pm0 an0 cd0 ct0, f1, PySem.W.fnOf "is_hill" "is_hill" (defArgs s_is_hill) (defBody s_is_hill) (defScope s_is_hill) .none kV1 dc1 pm1 an1 (.ref gc1) ct1, f2, PySem.W.fnOf "are_hills" "are_hills" (defArgs s_are_hills) (defBody s_are_hills) (defScope s_are_hills) .none kV2 dc2 pm2 an2 (.ref gc2) ct2, f3, PySem.W.fnOf "height_at" "height_at" (defArgs s_height_at) (defBody s_height_at) (defScope s_height_at) .none kV3 dc3 pm3 an3 cd3 ct3, f4, PySem.W.fnOf "horizon" "horizon" (defArgs s_horizon) (defBody s_horizon) (defScope s_horizon) .none kV4 dc4 pm4 an4 cd4 ct4, f5, PySem.W.fnOf "seen" "seen" (defArgs s_seen) (defBody s_seen) (defScope s_seen) .none kV5 dc5 pm5 an5 (.ref gc5) ct5, f6, PySem.W.fnOf "hidden" "hidden" (defArgs s_hidden) (defBody s_hidden) (defScope s_hidden) .none kV6 dc6 pm6 an6 cd6 ct6, f7, PySem.W.fnOf "_law_draws" "_law_draws" (defArgs s__law_draws) (defBody s__law_draws) (defScope s__law_draws) .none kV7 dc7 pm7 an7 cd7 ct7, f8, PySem.W.fnOf "_law_take" "_law_take" (defArgs s__law_take) (defBody s__law_take) (defScope s__law_take) .none kV8 dc8 pm8 an8 cd8 ct8, f9, PySem.W.fnOf "_law_says" "_law_says" (defArgs s__law_says) (defBody s__law_says) (defScope s__law_says) .none kV9 dc9 pm9 an9 cd9 ct9, f10, PySem.W.fnOf "_law_alike" "_law_alike" (defArgs s__law_alike) (defBody s__law_alike) (defScope s__law_alike) .none kV10 dc10 pm10 an10 cd10 ct10, f11, PySem.W.fnOf "_law_heights" "_law_heights" (defArgs s__law_heights) (defBody s__law_heights) (defScope s__law_heights) .none kV11 dc11 pm11 an11 cd11 ct11, f12, PySem.W.fnOf "_law_horizon" "_law_horizon" (defArgs s__law_horizon) (defBody s__law_horizon) (defScope s__law_horizon) .none kV12 dc12 pm12 an12 cd12 ct12, f13, PySem.W.fnOf "_law_seen" "_law_seen" (defArgs s__law_seen) (defBody s__law_seen) (defScope s__law_seen) .none kV13 dc13 pm13 an13 cd13 ct13, f14, PySem.W.fnOf "law" "law" (defArgs s_law) (defBody s_law) (defScope s_law) .none kV14 dc14 pm14 an14 cd14 ct14, gc1, gp1, gc2, gp2, gc5, gp5⟩ := by
  have F0 := fun_mk (st := s_is_number) l0 c0 k0
  have F1 := fun_mk (st := s_is_hill) l1 c1 k1
  have F2 := fun_mk (st := s_are_hills) l2 c2 k2
  have F3 := fun_mk (st := s_height_at) l3 c3 k3
  have F4 := fun_mk (st := s_horizon) l4 c4 k4
  have F5 := fun_mk (st := s_seen) l5 c5 k5
  have F6 := fun_mk (st := s_hidden) l6 c6 k6
  have F7 := fun_mk (st := s__law_draws) l7 c7 k7
  have F8 := fun_mk (st := s__law_take) l8 c8 k8
  have F9 := fun_mk (st := s__law_says) l9 c9 k9
  have F10 := fun_mk (st := s__law_alike) l10 c10 k10
  have F11 := fun_mk (st := s__law_heights) l11 c11 k11
  have F12 := fun_mk (st := s__law_horizon) l12 c12 k12
  have F13 := fun_mk (st := s__law_seen) l13 c13 k13
  have F14 := fun_mk (st := s_law) l14 c14 k14
  exact {
    f_is_number := F0
    m_is_number := PySem.W.mg_of X G a0
    b_is_number := F0.binds (ps := ["value", "least", "most"]) fun _ _ _ _ _ _ us hl => match us, hl with | [_, _, _], _ => rfl
    f_is_hill := F1
    m_is_hill := PySem.W.mg_of X G a1
    b_is_hill := F1.binds (ps := ["value"]) fun _ _ _ _ _ _ us hl => match us, hl with | [_], _ => rfl
    f_are_hills := F2
    m_are_hills := PySem.W.mg_of X G a2
    b_are_hills := F2.binds (ps := ["value"]) fun _ _ _ _ _ _ us hl => match us, hl with | [_], _ => rfl
    f_height_at := F3
    m_height_at := PySem.W.mg_of X G a3
    b_height_at := F3.binds (ps := ["hills", "place"]) fun _ _ _ _ _ _ us hl => match us, hl with | [_, _], _ => rfl
    f_horizon := F4
    m_horizon := PySem.W.mg_of X G a4
    b_horizon := F4.binds (ps := ["hills"]) fun _ _ _ _ _ _ us hl => match us, hl with | [_], _ => rfl
    f_seen := F5
    m_seen := PySem.W.mg_of X G a5
    b_seen := F5.binds (ps := ["hills"]) fun _ _ _ _ _ _ us hl => match us, hl with | [_], _ => rfl
    f_hidden := F6
    m_hidden := PySem.W.mg_of X G a6
    b_hidden := F6.binds (ps := ["hills"]) fun _ _ _ _ _ _ us hl => match us, hl with | [_], _ => rfl
    f__law_draws := F7
    m__law_draws := PySem.W.mg_of X G a7
    b__law_draws := F7.binds (ps := ["script"]) fun _ _ _ _ _ _ us hl => match us, hl with | [_], _ => rfl
    f__law_take := F8
    m__law_take := PySem.W.mg_of X G a8
    b__law_take := F8.binds (ps := ["draws", "bound"]) fun _ _ _ _ _ _ us hl => match us, hl with | [_, _], _ => rfl
    f__law_says := F9
    m__law_says := PySem.W.mg_of X G a9
    b__law_says := F9.binds (ps := ["told", "due"]) fun _ _ _ _ _ _ us hl => match us, hl with | [_, _], _ => rfl
    f__law_alike := F10
    m__law_alike := PySem.W.mg_of X G a10
    b__law_alike := F10.binds (ps := ["found", "due"]) fun _ _ _ _ _ _ us hl => match us, hl with | [_, _], _ => rfl
    f__law_heights := F11
    m__law_heights := PySem.W.mg_of X G a11
    b__law_heights := F11.binds (ps := ["hills"]) fun _ _ _ _ _ _ us hl => match us, hl with | [_], _ => rfl
    f__law_horizon := F12
    m__law_horizon := PySem.W.mg_of X G a12
    b__law_horizon := F12.binds (ps := ["hills"]) fun _ _ _ _ _ _ us hl => match us, hl with | [_], _ => rfl
    f__law_seen := F13
    m__law_seen := PySem.W.mg_of X G a13
    b__law_seen := F13.binds (ps := ["hills"]) fun _ _ _ _ _ _ us hl => match us, hl with | [_], _ => rfl
    f_law := F14
    m_law := PySem.W.mg_of X G a14
    b_law := F14.binds (ps := ["script"]) fun _ _ _ _ _ _ us hl => match us, hl with | [_], _ => rfl
    n_abs := PySem.W.mg_none_of X G z0
    n_all := PySem.W.mg_none_of X G z1
    n_any := PySem.W.mg_none_of X G z2
    n_bool := PySem.W.mg_none_of X G z3
    n_enumerate := PySem.W.mg_none_of X G z4
    n_int := PySem.W.mg_none_of X G z5
    n_isinstance := PySem.W.mg_none_of X G z6
    n_len := PySem.W.mg_none_of X G z7
    n_list := PySem.W.mg_none_of X G z8
    n_max := PySem.W.mg_none_of X G z9
    n_min := PySem.W.mg_none_of X G z10
    n_range := PySem.W.mg_none_of X G z11
    n_reversed := PySem.W.mg_none_of X G z12
    n_sorted := PySem.W.mg_none_of X G z13
    n_str := PySem.W.mg_none_of X G z14
    n_sum := PySem.W.mg_none_of X G z15
    n_tuple := PySem.W.mg_none_of X G z16
    k_is_hill := rfl
    k_are_hills := rfl
    k_seen := rfl
    g_MOST_HEIGHT := ⟨(.int 50), (.int 50 tk1), PySem.W.mg_of X G cx_MOST_HEIGHT, ⟨_, rfl⟩, (.int _)⟩
    g_MOST_PLACE := ⟨(.int 100), (.int 100 tk2), PySem.W.mg_of X G cx_MOST_PLACE, ⟨_, rfl⟩, (.int _)⟩
    g_MOST_HILLS := ⟨(.int 10), (.int 10 tk3), PySem.W.mg_of X G cx_MOST_HILLS, ⟨_, rfl⟩, (.int _)⟩
  }
theorem law_mk {w : World} {K : PySem.W.Frag} {h : Heap} {mg mb : Str → Option Value} {p : Program} {loose : List Str} {mean : ExcName → Option Value} {fa : Addr} (X : K.In h) (T0 : Top p loose mean mg mb h) (G : h.Ns mainGlobals mg) (hfa : mg "law" = some (.ref fa))
    {od0 an0 od1 an1 od2 an2 od3 an3 od4 an4 od5 an5 od6 an6 od7 an7 od8 an8 od9 an9 od10 an10 od11 an11 od12 an12 od13 an13 od14 an14 : Option Addr} {sl0 sl1 sl2 sl3 sl4 sl5 sl6 sl7 sl8 sl9 sl10 sl11 sl12 sl13 sl14 : Array (Option Value)} {oc0 kV0 dc0 pm0 ct0 cd0 oc1 kV1 dc1 pm1 ct1 oc2 kV2 dc2 pm2 ct2 oc3 kV3 dc3 pm3 ct3 cd3 oc4 kV4 dc4 pm4 ct4 cd4 oc5 kV5 dc5 pm5 ct5 oc6 kV6 dc6 pm6 ct6 cd6 oc7 kV7 dc7 pm7 ct7 cd7 oc8 kV8 dc8 pm8 ct8 cd8 oc9 kV9 dc9 pm9 ct9 cd9 oc10 kV10 dc10 pm10 ct10 cd10 oc11 kV11 dc11 pm11 ct11 cd11 oc12 kV12 dc12 pm12 ct12 cd12 oc13 kV13 dc13 pm13 ct13 cd13 oc14 kV14 dc14 pm14 ct14 cd14 : Value}
    {f0 f1 f2 f3 f4 f5 f6 f7 f8 f9 f10 f11 f12 f13 f14 : Addr} {gc1 gp1 gc2 gp2 gc5 gp5 : Addr} {gd1 gd2 gd5 : Option Addr} {go1 go2 go5 : Value} {gv1 gv2 gv5 : Array Value} {gs1 gs2 gs5 : Array (Option Value)}
    {tk1 tk2 tk3 : Tok}
    (a0 : PySem.W.nsIn K mainGlobals "is_number" = some (some (.ref f0))) (l0 : K.lookup f0 = some ⟨oc0, od0, .func (PySem.W.fnOf "is_number" "is_number" (defArgs s_is_number) (defBody s_is_number) (defScope s_is_number) .none kV0 dc0 pm0 an0 cd0 ct0), sl0⟩) (c0 : PySem.W.codeIn K cd0 "is_number" = true) (k0 : PySem.W.keepIn K (.ref f0) = true)
    (a1 : PySem.W.nsIn K mainGlobals "is_hill" = some (some (.ref f1))) (l1 : K.lookup f1 = some ⟨oc1, od1, .func (PySem.W.fnOf "is_hill" "is_hill" (defArgs s_is_hill) (defBody s_is_hill) (defScope s_is_hill) .none kV1 dc1 pm1 an1 (.ref gc1) ct1), sl1⟩) (c1 : PySem.W.codeIn K (.ref gc1) "is_hill" = true) (k1 : PySem.W.keepIn K (.ref f1) = true)
    (a2 : PySem.W.nsIn K mainGlobals "are_hills" = some (some (.ref f2))) (l2 : K.lookup f2 = some ⟨oc2, od2, .func (PySem.W.fnOf "are_hills" "are_hills" (defArgs s_are_hills) (defBody s_are_hills) (defScope s_are_hills) .none kV2 dc2 pm2 an2 (.ref gc2) ct2), sl2⟩) (c2 : PySem.W.codeIn K (.ref gc2) "are_hills" = true) (k2 : PySem.W.keepIn K (.ref f2) = true)
    (a3 : PySem.W.nsIn K mainGlobals "height_at" = some (some (.ref f3))) (l3 : K.lookup f3 = some ⟨oc3, od3, .func (PySem.W.fnOf "height_at" "height_at" (defArgs s_height_at) (defBody s_height_at) (defScope s_height_at) .none kV3 dc3 pm3 an3 cd3 ct3), sl3⟩) (c3 : PySem.W.codeIn K cd3 "height_at" = true) (k3 : PySem.W.keepIn K (.ref f3) = true)
    (a4 : PySem.W.nsIn K mainGlobals "horizon" = some (some (.ref f4))) (l4 : K.lookup f4 = some ⟨oc4, od4, .func (PySem.W.fnOf "horizon" "horizon" (defArgs s_horizon) (defBody s_horizon) (defScope s_horizon) .none kV4 dc4 pm4 an4 cd4 ct4), sl4⟩) (c4 : PySem.W.codeIn K cd4 "horizon" = true) (k4 : PySem.W.keepIn K (.ref f4) = true)
    (a5 : PySem.W.nsIn K mainGlobals "seen" = some (some (.ref f5))) (l5 : K.lookup f5 = some ⟨oc5, od5, .func (PySem.W.fnOf "seen" "seen" (defArgs s_seen) (defBody s_seen) (defScope s_seen) .none kV5 dc5 pm5 an5 (.ref gc5) ct5), sl5⟩) (c5 : PySem.W.codeIn K (.ref gc5) "seen" = true) (k5 : PySem.W.keepIn K (.ref f5) = true)
    (a6 : PySem.W.nsIn K mainGlobals "hidden" = some (some (.ref f6))) (l6 : K.lookup f6 = some ⟨oc6, od6, .func (PySem.W.fnOf "hidden" "hidden" (defArgs s_hidden) (defBody s_hidden) (defScope s_hidden) .none kV6 dc6 pm6 an6 cd6 ct6), sl6⟩) (c6 : PySem.W.codeIn K cd6 "hidden" = true) (k6 : PySem.W.keepIn K (.ref f6) = true)
    (a7 : PySem.W.nsIn K mainGlobals "_law_draws" = some (some (.ref f7))) (l7 : K.lookup f7 = some ⟨oc7, od7, .func (PySem.W.fnOf "_law_draws" "_law_draws" (defArgs s__law_draws) (defBody s__law_draws) (defScope s__law_draws) .none kV7 dc7 pm7 an7 cd7 ct7), sl7⟩) (c7 : PySem.W.codeIn K cd7 "_law_draws" = true) (k7 : PySem.W.keepIn K (.ref f7) = true)
    (a8 : PySem.W.nsIn K mainGlobals "_law_take" = some (some (.ref f8))) (l8 : K.lookup f8 = some ⟨oc8, od8, .func (PySem.W.fnOf "_law_take" "_law_take" (defArgs s__law_take) (defBody s__law_take) (defScope s__law_take) .none kV8 dc8 pm8 an8 cd8 ct8), sl8⟩) (c8 : PySem.W.codeIn K cd8 "_law_take" = true) (k8 : PySem.W.keepIn K (.ref f8) = true)
    (a9 : PySem.W.nsIn K mainGlobals "_law_says" = some (some (.ref f9))) (l9 : K.lookup f9 = some ⟨oc9, od9, .func (PySem.W.fnOf "_law_says" "_law_says" (defArgs s__law_says) (defBody s__law_says) (defScope s__law_says) .none kV9 dc9 pm9 an9 cd9 ct9), sl9⟩) (c9 : PySem.W.codeIn K cd9 "_law_says" = true) (k9 : PySem.W.keepIn K (.ref f9) = true)
    (a10 : PySem.W.nsIn K mainGlobals "_law_alike" = some (some (.ref f10))) (l10 : K.lookup f10 = some ⟨oc10, od10, .func (PySem.W.fnOf "_law_alike" "_law_alike" (defArgs s__law_alike) (defBody s__law_alike) (defScope s__law_alike) .none kV10 dc10 pm10 an10 cd10 ct10), sl10⟩) (c10 : PySem.W.codeIn K cd10 "_law_alike" = true) (k10 : PySem.W.keepIn K (.ref f10) = true)
    (a11 : PySem.W.nsIn K mainGlobals "_law_heights" = some (some (.ref f11))) (l11 : K.lookup f11 = some ⟨oc11, od11, .func (PySem.W.fnOf "_law_heights" "_law_heights" (defArgs s__law_heights) (defBody s__law_heights) (defScope s__law_heights) .none kV11 dc11 pm11 an11 cd11 ct11), sl11⟩) (c11 : PySem.W.codeIn K cd11 "_law_heights" = true) (k11 : PySem.W.keepIn K (.ref f11) = true)
    (a12 : PySem.W.nsIn K mainGlobals "_law_horizon" = some (some (.ref f12))) (l12 : K.lookup f12 = some ⟨oc12, od12, .func (PySem.W.fnOf "_law_horizon" "_law_horizon" (defArgs s__law_horizon) (defBody s__law_horizon) (defScope s__law_horizon) .none kV12 dc12 pm12 an12 cd12 ct12), sl12⟩) (c12 : PySem.W.codeIn K cd12 "_law_horizon" = true) (k12 : PySem.W.keepIn K (.ref f12) = true)
    (a13 : PySem.W.nsIn K mainGlobals "_law_seen" = some (some (.ref f13))) (l13 : K.lookup f13 = some ⟨oc13, od13, .func (PySem.W.fnOf "_law_seen" "_law_seen" (defArgs s__law_seen) (defBody s__law_seen) (defScope s__law_seen) .none kV13 dc13 pm13 an13 cd13 ct13), sl13⟩) (c13 : PySem.W.codeIn K cd13 "_law_seen" = true) (k13 : PySem.W.keepIn K (.ref f13) = true)
    (a14 : PySem.W.nsIn K mainGlobals "law" = some (some (.ref f14))) (l14 : K.lookup f14 = some ⟨oc14, od14, .func (PySem.W.fnOf "law" "law" (defArgs s_law) (defBody s_law) (defScope s_law) .none kV14 dc14 pm14 an14 cd14 ct14), sl14⟩) (c14 : PySem.W.codeIn K cd14 "law" = true) (k14 : PySem.W.keepIn K (.ref f14) = true)
    (z0 : PySem.W.nsIn K mainGlobals "abs" = some none)
    (z1 : PySem.W.nsIn K mainGlobals "all" = some none)
    (z2 : PySem.W.nsIn K mainGlobals "any" = some none)
    (z3 : PySem.W.nsIn K mainGlobals "bool" = some none)
    (z4 : PySem.W.nsIn K mainGlobals "enumerate" = some none)
    (z5 : PySem.W.nsIn K mainGlobals "int" = some none)
    (z6 : PySem.W.nsIn K mainGlobals "isinstance" = some none)
    (z7 : PySem.W.nsIn K mainGlobals "len" = some none)
    (z8 : PySem.W.nsIn K mainGlobals "list" = some none)
    (z9 : PySem.W.nsIn K mainGlobals "max" = some none)
    (z10 : PySem.W.nsIn K mainGlobals "min" = some none)
    (z11 : PySem.W.nsIn K mainGlobals "range" = some none)
    (z12 : PySem.W.nsIn K mainGlobals "reversed" = some none)
    (z13 : PySem.W.nsIn K mainGlobals "sorted" = some none)
    (z14 : PySem.W.nsIn K mainGlobals "str" = some none)
    (z15 : PySem.W.nsIn K mainGlobals "sum" = some none)
    (z16 : PySem.W.nsIn K mainGlobals "tuple" = some none)
    (g1 : K.lookup gc1 = some ⟨go1, gd1, .fields gv1, gs1⟩) (v1 : gv1[11]? = some (.ref gp1)) (u1 : K.lookup gp1 = none)
    (g2 : K.lookup gc2 = some ⟨go2, gd2, .fields gv2, gs2⟩) (v2 : gv2[11]? = some (.ref gp2)) (u2 : K.lookup gp2 = none)
    (g5 : K.lookup gc5 = some ⟨go5, gd5, .fields gv5, gs5⟩) (v5 : gv5[11]? = some (.ref gp5)) (u5 : K.lookup gp5 = none)
    (cx_MOST_HEIGHT : PySem.W.nsIn K mainGlobals "MOST_HEIGHT" = some (some (.int 50 tk1)))
    (cx_MOST_PLACE : PySem.W.nsIn K mainGlobals "MOST_PLACE" = some (some (.int 100 tk2)))
    (cx_MOST_HILLS : PySem.W.nsIn K mainGlobals "MOST_HILLS" = some (some (.int 10 tk3)))
    {rd1 : DefRec} (r1 : (recsOf p).find? (fun e => e.name == ("is_hill" : Str)) = some rd1) {rd2 : DefRec} (r2 : (recsOf p).find? (fun e => e.name == ("are_hills" : Str)) = some rd2) {rd5 : DefRec} (r5 : (recsOf p).find? (fun e => e.name == ("seen" : Str)) = some rd5) :
    LamX.LawAtS PySem.Challenge.rw_nightsgiven_k37_whole_horizons_of_hills w K (L2N.CX PySem.Challenge.rw_nightsgiven_k37_whole_horizons_of_hills.prog w) 6 63 "script" mg fa h := by
  have e := hfa.symm.trans (PySem.W.mg_of X G a14)
  cases e
  have T := txt_mk X G a0 l0 c0 k0 a1 l1 c1 k1 a2 l2 c2 k2 a3 l3 c3 k3 a4 l4 c4 k4 a5 l5 c5 k5 a6 l6 c6 k6 a7 l7 c7 k7 a8 l8 c8 k8 a9 l9 c9 k9 a10 l10 c10 k10 a11 l11 c11 k11 a12 l12 c12 k12 a13 l13 c13 k13 a14 l14 c14 k14 z0 z1 z2 z3 z4 z5 z6 z7 z8 z9 z10 z11 z12 z13 z14 z15 z16 g1 v1 u1 g2 v2 u2 g5 v5 u5 cx_MOST_HEIGHT cx_MOST_PLACE cx_MOST_HILLS
  have w1 := PySem.W.tab_of T0 X r1 (tabIn_of a1 l1 rfl g1 v1)
  have w2 := PySem.W.tab_of T0 X r2 (tabIn_of a2 l2 rfl g2 v2)
  have w5 := PySem.W.tab_of T0 X r5 (tabIn_of a5 l5 rfl g5 v5)
  refine ⟨PySem.W.fnOf "law" "law" (defArgs s_law) (defBody s_law) (defScope s_law) .none kV14 dc14 pm14 an14 cd14 ct14, [(gc1, gp1), (gc2, gp2), (gc5, gp5)], spLaw K (LL ⟨f0, PySem.W.fnOf "is_number" "is_number" (defArgs s_is_number) (defBody s_is_number) (defScope s_is_number) .none kV0 dc0 pm0 an0 cd0 ct0, f1, PySem.W.fnOf "is_hill" "is_hill" (defArgs s_is_hill) (defBody s_is_hill) (defScope s_is_hill) .none kV1 dc1 pm1 an1 (.ref gc1) ct1, f2, PySem.W.fnOf "are_hills" "are_hills" (defArgs s_are_hills) (defBody s_are_hills) (defScope s_are_hills) .none kV2 dc2 pm2 an2 (.ref gc2) ct2, f3, PySem.W.fnOf "height_at" "height_at" (defArgs s_height_at) (defBody s_height_at) (defScope s_height_at) .none kV3 dc3 pm3 an3 cd3 ct3, f4, PySem.W.fnOf "horizon" "horizon" (defArgs s_horizon) (defBody s_horizon) (defScope s_horizon) .none kV4 dc4 pm4 an4 cd4 ct4, f5, PySem.W.fnOf "seen" "seen" (defArgs s_seen) (defBody s_seen) (defScope s_seen) .none kV5 dc5 pm5 an5 (.ref gc5) ct5, f6, PySem.W.fnOf "hidden" "hidden" (defArgs s_hidden) (defBody s_hidden) (defScope s_hidden) .none kV6 dc6 pm6 an6 cd6 ct6, f7, PySem.W.fnOf "_law_draws" "_law_draws" (defArgs s__law_draws) (defBody s__law_draws) (defScope s__law_draws) .none kV7 dc7 pm7 an7 cd7 ct7, f8, PySem.W.fnOf "_law_take" "_law_take" (defArgs s__law_take) (defBody s__law_take) (defScope s__law_take) .none kV8 dc8 pm8 an8 cd8 ct8, f9, PySem.W.fnOf "_law_says" "_law_says" (defArgs s__law_says) (defBody s__law_says) (defScope s__law_says) .none kV9 dc9 pm9 an9 cd9 ct9, f10, PySem.W.fnOf "_law_alike" "_law_alike" (defArgs s__law_alike) (defBody s__law_alike) (defScope s__law_alike) .none kV10 dc10 pm10 an10 cd10 ct10, f11, PySem.W.fnOf "_law_heights" "_law_heights" (defArgs s__law_heights) (defBody s__law_heights) (defScope s__law_heights) .none kV11 dc11 pm11 an11 cd11 ct11, f12, PySem.W.fnOf "_law_horizon" "_law_horizon" (defArgs s__law_horizon) (defBody s__law_horizon) (defScope s__law_horizon) .none kV12 dc12 pm12 an12 cd12 ct12, f13, PySem.W.fnOf "_law_seen" "_law_seen" (defArgs s__law_seen) (defBody s__law_seen) (defScope s__law_seen) .none kV13 dc13 pm13 an13 cd13 ct13, fa, PySem.W.fnOf "law" "law" (defArgs s_law) (defBody s_law) (defScope s_law) .none kV14 dc14 pm14 an14 cd14 ct14, gc1, gp1, gc2, gp2, gc5, gp5⟩), ?_, ?_, ?_, fun s u => .of_eq rfl, fun H a ns hl hb ht hs => ⟨a, ns, rfl, hs, hl, hb, ?_, fun _ => rfl⟩, fun base _ _ hB => ok_law T ?_⟩
  · exact fun p z => by
      simp only [List.mem_cons, List.not_mem_nil, or_false] at z
      rcases z with rfl | rfl | rfl
      · exact w1.2
      · exact w2.2
      · exact w5.2
     
  · exact fun p z => by
      simp only [List.mem_cons, List.not_mem_nil, or_false] at z
      rcases z with rfl | rfl | rfl
      · exact u1
      · exact u2
      · exact u5
     
  · exact fun p z => by
      simp only [List.mem_cons, List.not_mem_nil, or_false] at z
      rcases z with rfl | rfl | rfl
      · exact w1.1
      · exact w2.1
      · exact w5.1
     
  · intro P hP
    simp only [LL, lwA, lwB, List.mem_cons, List.not_mem_nil, or_false] at hP
    rcases hP with hP | hP | hP
    · rw [hP]; exact ⟨#[], ht (gc1, gp1) (by simp), trivial⟩
    · rw [hP]; exact ⟨#[], ht (gc2, gp2) (by simp), trivial⟩
    · rw [hP]; exact ⟨#[], ht (gc5, gp5) (by simp), trivial⟩
  · exact ⟨hB (gc1, gp1) (by simp), hB (gc2, gp2) (by simp), hB (gc5, gp5) (by simp)⟩
end Lw
open PySem PySem.W PyProof.Rows
set_option maxHeartbeats 0 in
theorem PySem.Challenge.cw_nightsgiven_k37_whole_horizons_of_hills_holds : PySem.Challenge.rw_nightsgiven_k37_whole_horizons_of_hills.Holds := by
  w_on; o_law; k_head; (case hw => w_witness2)
  k_fill
  refine FL.walk_ofTt (l := PySem.Challenge.rw_nightsgiven_k37_whole_horizons_of_hills) (n := 63) (k := 6) (x := "script") (CX := fun w => L2N.CX PySem.Challenge.rw_nightsgiven_k37_whole_horizons_of_hills.prog w) rfl (by decide) rfl ⟨rfl, by decide, by decide⟩ (fun w h Y => PySem.W.kIn_of Y) ?F FL.cx_none
  case F =>
    intro w mg mb fa h mean Y KX T0 G hmg
    refine' Lw.law_mk KX T0 G hmg ?a0 ?l0 ?c0 ?k0 ?a1 ?l1 ?c1 ?k1 ?a2 ?l2 ?c2 ?k2 ?a3 ?l3 ?c3 ?k3 ?a4 ?l4 ?c4 ?k4 ?a5 ?l5 ?c5 ?k5 ?a6 ?l6 ?c6 ?k6 ?a7 ?l7 ?c7 ?k7 ?a8 ?l8 ?c8 ?k8 ?a9 ?l9 ?c9 ?k9 ?a10 ?l10 ?c10 ?k10 ?a11 ?l11 ?c11 ?k11 ?a12 ?l12 ?c12 ?k12 ?a13 ?l13 ?c13 ?k13 ?a14 ?l14 ?c14 ?k14 ?z0 ?z1 ?z2 ?z3 ?z4 ?z5 ?z6 ?z7 ?z8 ?z9 ?z10 ?z11 ?z12 ?z13 ?z14 ?z15 ?z16 ?g1 ?v1 ?u1 ?g2 ?v2 ?u2 ?g5 ?v5 ?u5 ?cx_MOST_HEIGHT ?cx_MOST_PLACE ?cx_MOST_HILLS ?r1 ?r2 ?r5
    (case a0 => k_is); (case l0 => k_is); (case c0 => k_is); (case k0 => k_is); (case a1 => k_is); (case l1 => k_is); (case c1 => k_is); (case k1 => k_is); (case a2 => k_is); (case l2 => k_is); (case c2 => k_is); (case k2 => k_is); (case a3 => k_is); (case l3 => k_is); (case c3 => k_is); (case k3 => k_is); (case a4 => k_is); (case l4 => k_is); (case c4 => k_is); (case k4 => k_is); (case a5 => k_is); (case l5 => k_is); (case c5 => k_is); (case k5 => k_is); (case a6 => k_is); (case l6 => k_is); (case c6 => k_is); (case k6 => k_is); (case a7 => k_is); (case l7 => k_is); (case c7 => k_is); (case k7 => k_is); (case a8 => k_is); (case l8 => k_is); (case c8 => k_is); (case k8 => k_is); (case a9 => k_is); (case l9 => k_is); (case c9 => k_is); (case k9 => k_is); (case a10 => k_is); (case l10 => k_is); (case c10 => k_is); (case k10 => k_is); (case a11 => k_is); (case l11 => k_is); (case c11 => k_is); (case k11 => k_is); (case a12 => k_is); (case l12 => k_is); (case c12 => k_is); (case k12 => k_is); (case a13 => k_is); (case l13 => k_is); (case c13 => k_is); (case k13 => k_is); (case a14 => k_is); (case l14 => k_is); (case c14 => k_is); (case k14 => k_is); (case z0 => k_is); (case z1 => k_is); (case z2 => k_is); (case z3 => k_is); (case z4 => k_is); (case z5 => k_is); (case z6 => k_is); (case z7 => k_is); (case z8 => k_is); (case z9 => k_is); (case z10 => k_is); (case z11 => k_is); (case z12 => k_is); (case z13 => k_is); (case z14 => k_is); (case z15 => k_is); (case z16 => k_is); (case g1 => k_is); (case v1 => rfl); (case u1 => rfl); (case g2 => k_is); (case v2 => rfl); (case u2 => rfl); (case g5 => k_is); (case v5 => rfl); (case u5 => rfl); (case cx_MOST_HEIGHT => k_is); (case cx_MOST_PLACE => k_is); (case cx_MOST_HILLS => k_is); (case r1 => rfl); (case r2 => rfl); (case r5 => rfl)

