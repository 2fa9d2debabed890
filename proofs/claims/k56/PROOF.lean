import PyProof.Rows.All
import Wide.All
import OpenK.AllK
import Wide.FinOn
import HandS.ForMost
import HandS.ForExc
import HandS.Walk
import HandS.Wide
import HandS.Deep
import HandS.Conv
import HandS.IsInst
import HandS.TupAny
import HandS.CallSlots
import HandS.EndTab
import HandS.Style
import HandS.Flow
import HandS.ExcCtx
import HandS.Rev
import HandS.RevTup
import KE.KRevIter
import HandS.Comp
import HandS.AnyAll
import HandS.GenList
import KE.KNest
import HandS.Text
import HandS.Star
import HandS.TupMul
import HandS.Gcd
import KE.DataMinMax
import KE.SortData
import KE.KIndexOf
import HandS.Hot
import HandS.HotCalls
import HandS.ExcIs
import HandS.Lambda
import KE.RegKIsAll
import KE.RegKTryMore
import PySem.Challenge.RW_nightsgiven_k56_whole_clocks_that_go_wro
set_option Elab.async false
set_option linter.all false
set_option maxRecDepth 100000
set_option maxHeartbeats 4000000
/-! FL1: a by-value reading over the hand layer: data in place of heaps. -/
namespace FL
open PySem PySem.Spec PyProof.Rows L2

abbrev D := PyData
/-- what a slot holds: nothing that is known, a datum, a list of its own that may grow, the law's draws, a list only looked at, a caught exception -/
inductive Cel where
  | no | fz (d : D) | ow (ds : List D) | dr | lk (ds : List D) | px (a : Addr)
abbrev Sl := List Cel

/-- a law's own: the tables of code objects that may grow; what its draws are like -/
structure Lw where
  tabs : List Addr
  good : List D → Prop
/-- where a def began: the heap, what of it is told by data, the draws' address -/
structure Beg where
  H0 : Hp
  F0 : Hp
  dr : Option Addr

theorem same_upd {H : Hp} {p : Addr} {o : HO} (h : H p = none) : Same H (upd H p o) := fun b x e => by
  rw [upd_ne (ne_of_none e h)]
  exact e
theorem same_sqT {K : PySem.W.Frag} {H H' : Hp} {a : Addr} {xs : List V} (e : Same H H') (h : SqT K H a xs) : SqT K H' a xs := by
  rcases h with (h | ⟨o, h⟩) | h
  · exact .inl (.inl (e _ _ h))
  · exact .inl (.inr ⟨o, e _ _ h⟩)
  · exact .inr h
/-! what stands at a value, as data (lists: tracked ones) -/
mutual
inductive Dt (K : PySem.W.Frag) (H : Hp) : V → PyData → Prop
  | non : Dt K H .non .none
  | bl (b : Bool) : Dt K H (.bl b) (.bool b)
  | int (i : Int) : Dt K H (.int i) (.int i)
  | str (x : Str) : Dt K H (.str x) (.str x)
  | lst {a : Addr} {xs : List V} {ds : List PyData} : SqL K H a xs → DtAll K H xs ds → Dt K H (.ref a) (.list ds)
  | tup {a : Addr} {xs : List V} {ds : List PyData} : SqT K H a xs → DtAll K H xs ds → Dt K H (.ref a) (.tuple ds)
inductive DtAll (K : PySem.W.Frag) (H : Hp) : List V → List PyData → Prop
  | nil : DtAll K H [] []
  | cons {v : V} {vs : List V} {d : PyData} {ds : List PyData} : Dt K H v d → DtAll K H vs ds → DtAll K H (v :: vs) (d :: ds)
end
theorem same_rd {H H' : Hp} {a : Addr} {u : HO} (e : Same H H') (h : Rd H a u) : Rd H' a u := by
  rcases h with h | ⟨o, h⟩
  · exact .inl (e _ _ h)
  · exact .inr ⟨o, e _ _ h⟩
mutual
theorem dt_dp {K : PySem.W.Frag} {H : Hp} : ∀ {v : V} {d : D}, Dt K H v d → L2.Dp K H v d
  | _, .none, h => by cases h; exact .non
  | _, .bool _, h => by cases h; exact .bl _
  | _, .int _, h => by cases h; exact .int _
  | _, .str _, h => by cases h; exact .str _
  | _, .list ds, h => by
    cases h with
    | lst hs ha => exact .lst hs (dts_dp ha)
  | _, .tuple ds, h => by
    cases h with
    | tup hs ha => exact .tup hs (dts_dp ha)
  | _, .dict _, h => by cases h
theorem dts_dp {K : PySem.W.Frag} {H : Hp} : ∀ {vs : List V} {ds : List D}, DtAll K H vs ds → L2.DpAll K H vs ds
  | _, [], h => by cases h; exact .nil
  | _, _ :: _, h => by
    cases h with
    | cons h1 h2 => exact .cons (dt_dp h1) (dts_dp h2)
end
mutual
theorem dp_mono {K : PySem.W.Frag} {H H' : Hp} (e : Same H H') : ∀ {v : V} {d : D}, Dt K H v d → Dt K H' v d
  | _, .none, h => by cases h; exact .non
  | _, .bool _, h => by cases h; exact .bl _
  | _, .int _, h => by cases h; exact .int _
  | _, .str _, h => by cases h; exact .str _
  | _, .list ds, h => by
    cases h with
    | lst hs ha => exact .lst (e.seq hs) (dps_mono e ha)
  | _, .tuple ds, h => by
    cases h with
    | tup hs ha => exact .tup (same_sqT e hs) (dps_mono e ha)
  | _, .dict _, h => by cases h
theorem dps_mono {K : PySem.W.Frag} {H H' : Hp} (e : Same H H') : ∀ {vs : List V} {ds : List D}, DtAll K H vs ds → DtAll K H' vs ds
  | _, [], h => by cases h; exact .nil
  | _, _ :: _, h => by
    cases h with
    | cons h1 h2 => exact .cons (dp_mono e h1) (dps_mono e h2)
end
section
variable {K : PySem.W.Frag} {H : Hp}
theorem dps_len : ∀ {vs : List V} {ds : List D}, DtAll K H vs ds → vs.length = ds.length
  | _, [], h => by cases h; rfl
  | _, _ :: _, h => by
    cases h with
    | cons h1 h2 => simp [dps_len h2]
theorem dps_app : ∀ {vs : List V} {ds : List D} {us : List V} {es : List D}, DtAll K H vs ds → DtAll K H us es → DtAll K H (vs ++ us) (ds ++ es)
  | _, [], _, _, h, h' => by cases h; exact h'
  | _, _ :: _, _, _, h, h' => by
    cases h with
    | cons h1 h2 => exact .cons h1 (dps_app h2 h')
theorem dps_one {v : V} {d : D} (h : Dt K H v d) : DtAll K H [v] [d] := .cons h .nil
theorem dps_get : ∀ {vs : List V} {ds : List D} {i : Nat} {d : D}, DtAll K H vs ds → ds[i]? = some d → ∃ v, vs[i]? = some v ∧ Dt K H v d
  | _, [], _, _, h, e => by simp at e
  | _, d :: ds, 0, _, h, e => by
    cases h with
    | cons h1 h2 => simp at e; subst e; exact ⟨_, rfl, h1⟩
  | _, d :: ds, i + 1, _, h, e => by
    cases h with
    | cons h1 h2 =>
      obtain ⟨v, e1, e2⟩ := dps_get (i := i) h2 (by simpa using e)
      exact ⟨v, by simpa using e1, e2⟩
theorem dps_getv : ∀ {vs : List V} {ds : List D} {i : Nat} {v : V}, DtAll K H vs ds → vs[i]? = some v → ∃ d, ds[i]? = some d ∧ Dt K H v d
  | _, [], _, _, h, e => by cases h; simp at e
  | _, d :: ds, 0, _, h, e => by
    cases h with
    | cons h1 h2 => simp at e; subst e; exact ⟨_, rfl, h1⟩
  | _, d :: ds, i + 1, _, h, e => by
    cases h with
    | cons h1 h2 =>
      obtain ⟨v, e1, e2⟩ := dps_getv (i := i) h2 (by simpa using e)
      exact ⟨v, by simpa using e1, e2⟩
theorem dps_take : ∀ {vs : List V} {ds : List D} (n : Nat), DtAll K H vs ds → DtAll K H (vs.take n) (ds.take n)
  | _, [], n, h => by cases h; simp; exact .nil
  | _, _ :: _, 0, h => by simp; exact .nil
  | _, _ :: _, n + 1, h => by
    cases h with
    | cons h1 h2 => exact .cons h1 (dps_take n h2)
theorem dps_drop : ∀ {vs : List V} {ds : List D} (n : Nat), DtAll K H vs ds → DtAll K H (vs.drop n) (ds.drop n)
  | _, [], n, h => by cases h; simp; exact .nil
  | _, _ :: _, 0, h => h
  | _, _ :: _, n + 1, h => by
    cases h with
    | cons h1 h2 => exact dps_drop n h2
theorem dps_set {v : V} {d : D} (q : Dt K H v d) : ∀ {vs : List V} {ds : List D} (i : Nat), DtAll K H vs ds → DtAll K H (vs.set i v) (ds.set i d)
  | _, [], i, h => by cases h; exact .nil
  | _, _ :: _, 0, h => by
    cases h with
    | cons h1 h2 => exact .cons q h2
  | _, _ :: _, i + 1, h => by
    cases h with
    | cons h1 h2 => exact .cons h1 (dps_set q i h2)
theorem dps_ints : ∀ {ns : List Int} {vs : List V}, DtAll K H vs (ns.map .int) → vs = ns.map V.int
  | [], _, h => by cases h; rfl
  | _ :: _, _, h => by
    cases h with
    | cons h1 h2 => cases h1; simp [dps_ints h2]
theorem dps_of_ints : ∀ (ns : List Int), DtAll K H (ns.map V.int) (ns.map .int)
  | [] => .nil
  | n :: ns => .cons (.int n) (dps_of_ints ns)
theorem dps_bools : ∀ {ns : List Bool} {vs : List V}, DtAll K H vs (ns.map .bool) → vs = ns.map V.bl
  | [], _, h => by cases h; rfl
  | _ :: _, _, h => by
    cases h with
    | cons h1 h2 => cases h1; simp [dps_bools h2]
end

/-- what of a heap an expression keeps -/
def Kp (b : Beg) (H H' : Hp) : Prop := ∀ a o, H a = some o → b.dr ≠ some a → (∀ ps, o ≠ .tbl ps) → H' a = some o
theorem Kp.refl {b : Beg} {H : Hp} : Kp b H H := fun _ _ h _ _ => h
theorem Kp.trans {b : Beg} {H H1 H2 : Hp} (x : Kp b H H1) (y : Kp b H1 H2) : Kp b H H2 := fun a o h n t => y a o (x a o h n t) n t
theorem Kp.of {b : Beg} {H H' : Hp} (x : Same H H') : Kp b H H' := fun a o h _ _ => x a o h

/-- a table of code objects that may grow -/
def TabG (H : Hp) (P : Addr) : Prop := ∃ ps : Array Value, H P = some (.tbl ps) ∧ TriplesOk ps.toList

structure Grd (K : PySem.W.Frag) (L : Lw) (b : Beg) (F H : Hp) : Prop where
  sub : Same F H
  old : Same b.F0 F
  new : ∀ a o, F a = some o → b.F0 a = some o ∨ b.H0 a = none
  keep : Kp b b.H0 H
  live : ∀ a, H a = none → b.H0 a = none
  drw : ∀ a, b.dr = some a → F a = none ∧ ∃ vs ds, H a = some (.lst vs) ∧ DtAll K F vs ds ∧ L.good ds
  tab : ∀ P ∈ L.tabs, TabG H P
  ntb : ∀ a ps, F a ≠ some (.tbl ps)

def CelOk (K : PySem.W.Frag) (b : Beg) (F H : Hp) (v : Option V) : Cel → Prop
  | .no => True
  | .fz d => ∃ x, v = some x ∧ Dt K F x d
  | .ow ds => ∃ a vs, v = some (.ref a) ∧ b.H0 a = none ∧ b.dr ≠ some a ∧ F a = none ∧ H a = some (.lst vs) ∧ DtAll K F vs ds
  | .dr => ∃ a, v = some (.ref a) ∧ b.dr = some a
  | .lk ds => ∃ a vs, v = some (.ref a) ∧ b.H0 a ≠ none ∧ b.dr ≠ some a ∧ H a = some (.lst vs) ∧ DtAll K F vs ds
  | .px a => v = some (.ref a)
def isOw : Option Cel → Prop
  | some (.ow _) => True
  | _ => False
structure Rel (K : PySem.W.Frag) (L : Lw) (b : Beg) (F : Hp) (s : Sl) (σ : L2.St) (H : Hp) : Prop extends Grd K L b F H where
  len : σ.length = s.length
  slot : ∀ (i : Nat) c, s[i]? = some c → CelOk K b F H (σ.getD i none) c
  apart : ∀ (i j : Nat) a, i ≠ j → isOw s[i]? → isOw s[j]? → σ[i]? = some (some (.ref a)) → σ[j]? ≠ some (some (.ref a))

section
variable {K : PySem.W.Frag} {L : Lw} {b : Beg} {F F' : Hp} {s : Sl} {σ : L2.St} {H H' : Hp}
theorem CelOk.mono {v : Option V} {c : Cel} (x : CelOk K b F H v c) (hF : Same F F') (hn : ∀ a, F a = none → H a ≠ none → F' a = none) (hH : Kp b H H') : CelOk K b F' H' v c := by
  cases c with
  | no => trivial
  | fz d => obtain ⟨x, e, h⟩ := x; exact ⟨x, e, dp_mono hF h⟩
  | ow ds =>
    obtain ⟨a, vs, e, h0, hd, hf, hh, hs⟩ := x
    exact ⟨a, vs, e, h0, hd, hn a hf (by rw [hh]; simp), hH a _ hh hd (fun ps z => by cases z), dps_mono hF hs⟩
  | lk ds =>
    obtain ⟨a, vs, e, h0, hd, hh, hs⟩ := x
    exact ⟨a, vs, e, h0, hd, hH a _ hh hd (fun ps z => by cases z), dps_mono hF hs⟩
  | dr => exact x
  | px _ => exact x
/-- a new object, not told -/
theorem Grd.lay {p : Addr} {o : HO} (R : Grd K L b F H) (hp : H p = none) : Grd K L b F (upd H p o) where
  sub := fun a x h => same_upd hp a x (R.sub a x h)
  old := R.old
  new := R.new
  keep := R.keep.trans (Kp.of (same_upd hp))
  live := fun a h => R.live a (by
    cases q : H a with
    | none => rfl
    | some u => rw [same_upd hp a u q] at h; cases h)
  drw := fun a h => by
    obtain ⟨h1, vs, ds, h2, h3⟩ := R.drw a h
    exact ⟨h1, vs, ds, same_upd hp a _ h2, h3⟩
  tab := fun P h => by
    obtain ⟨ps, e, t⟩ := R.tab P h
    exact ⟨ps, same_upd hp P _ e, t⟩
  ntb := R.ntb
/-- a laid object is told from now on -/
theorem Grd.tell {p : Addr} {o : HO} (R : Grd K L b F H) (h0 : b.H0 p = none) (hd : b.dr ≠ some p) (e : H p = some o) (hf : F p = none) (ht : ∀ ps, o ≠ .tbl ps) : Grd K L b (upd F p o) H where
  sub := fun a x h => by
    by_cases q : a = p
    · subst q; rw [upd_same] at h; cases h; exact e
    · rw [upd_ne q] at h; exact R.sub a x h
  old := fun a x h => by
    by_cases q : a = p
    · subst q; rw [R.old a x h] at hf; cases hf
    · rw [upd_ne q]; exact R.old a x h
  new := fun a x h => by
    by_cases q : a = p
    · subst q; exact .inr h0
    · rw [upd_ne q] at h; exact R.new a x h
  keep := R.keep
  live := R.live
  drw := fun a h => by
    obtain ⟨h1, vs, ds, h2, h3, h4⟩ := R.drw a h
    have q : a ≠ p := fun z => hd (by rw [← z]; exact h)
    exact ⟨by rw [upd_ne q]; exact h1, vs, ds, h2, dps_mono (same_upd hf) h3, h4⟩
  tab := R.tab
  ntb := fun a ps h => by
    by_cases q : a = p
    · subst q; rw [upd_same] at h; cases h; exact ht ps rfl
    · rw [upd_ne q] at h; exact R.ntb a ps h
theorem Grd.dr_some (R : Grd K L b F H) {p : Addr} (hp : H p = none) : b.dr ≠ some p := fun z => by
  obtain ⟨_, vs, ds, e, _⟩ := R.drw p z
  rw [hp] at e; cases e
theorem Grd.f_none (R : Grd K L b F H) {p : Addr} (hp : H p = none) : F p = none := by
  cases q : F p with
  | none => rfl
  | some u => rw [R.sub p u q] at hp; cases hp
theorem Rel.lay {p : Addr} {o : HO} (R : Rel K L b F s σ H) (hp : H p = none) : Rel K L b F s σ (upd H p o) :=
  { R.toGrd.lay hp with len := R.len, slot := fun i c e => (R.slot i c e).mono (fun _ _ h => h) (fun _ h _ => h) (Kp.of (same_upd hp)), apart := R.apart }
theorem Rel.tell {p : Addr} {o : HO} (R : Rel K L b F s σ H) (h0 : b.H0 p = none) (hd : b.dr ≠ some p) (e : H p = some o) (hf : F p = none) (ht : ∀ ps, o ≠ .tbl ps)
    (hn : ∀ (i : Nat), isOw s[i]? → σ[i]? ≠ some (some (.ref p))) : Rel K L b (upd F p o) s σ H :=
  { R.toGrd.tell h0 hd e hf ht with
    len := R.len
    slot := fun i c q => by
      have x := R.slot i c q
      cases c with
      | no => trivial
      | fz d => obtain ⟨y, e1, h⟩ := x; exact ⟨y, e1, dp_mono (same_upd hf) h⟩
      | dr => exact x
      | px _ => exact x
      | lk ds =>
        obtain ⟨a, vs, e1, h1, h2, h3, h4⟩ := x
        exact ⟨a, vs, e1, h1, h2, h3, dps_mono (same_upd hf) h4⟩
      | ow ds =>
        obtain ⟨a, vs, e1, h1, h2, h3, h4, h5⟩ := x
        have ne : a ≠ p := fun z => hn i (by rw [q]; trivial) (by
          rw [← z]
          have hi : i < σ.length := by rw [R.len]; exact (List.getElem?_eq_some_iff.mp q).1
          rw [List.getD_eq_getElem?_getD, List.getElem?_eq_getElem hi] at e1
          rw [List.getElem?_eq_getElem hi]
          exact congrArg some e1)
        exact ⟨a, vs, e1, h1, h2, by rw [upd_ne ne]; exact h3, h4, dps_mono (same_upd hf) h5⟩
    apart := R.apart }
theorem Rel.ow_some (R : Rel K L b F s σ H) {p : Addr} (hp : H p = none) (i : Nat) (q : isOw s[i]?) : σ[i]? ≠ some (some (.ref p)) := fun z => by
  cases e : s[i]? with
  | none => rw [e] at q; exact q
  | some c =>
    rw [e] at q
    cases c with
    | ow ds =>
      obtain ⟨a, vs, e1, h1, h2, h3, h4, h5⟩ := R.slot i _ e
      rw [List.getD_eq_getElem?_getD, z] at e1
      cases e1
      rw [hp] at h4; cases h4
    | _ => exact q
/-- a new object, told -/
theorem Rel.new1 {p : Addr} {o : HO} (R : Rel K L b F s σ H) (hp : H p = none) (ht : ∀ ps, o ≠ .tbl ps) : Rel K L b (upd F p o) s σ (upd H p o) :=
  (R.lay hp).tell (R.live p hp) (R.dr_some hp) upd_same (R.f_none hp) ht (fun i q => R.ow_some hp i q)
/-- slot i holds a datum from now on -/
theorem Rel.put {i : Nat} {v : V} {d : D} (R : Rel K L b F s σ H) (h : Dt K F v d) : Rel K L b F (s.set i (.fz d)) (σ.set i (some v)) H :=
  { R.toGrd with
    len := by rw [List.length_set, List.length_set, R.len]
    slot := fun j c e => by
      by_cases q : j = i
      · subst q
        rw [List.getElem?_set] at e
        split at e
        · split at e
          · cases e
            rename_i hj
            refine ⟨v, ?_, h⟩
            rw [List.getD_eq_getElem?_getD, List.getElem?_set, if_pos rfl, if_pos (by rw [R.len]; exact hj)]
            rfl
          · cases e
        · rename_i z; exact absurd rfl z
      · rw [List.getElem?_set_ne (Ne.symm q)] at e
        have x := R.slot j c e
        rw [List.getD_eq_getElem?_getD] at x ⊢
        rw [List.getElem?_set_ne (Ne.symm q)]
        exact x
    apart := fun j k a n h1 h2 h3 h4 => by
      have nj : j ≠ i := fun z => by
        subst z; rw [List.getElem?_set] at h1
        split at h1
        · split at h1 <;> exact h1
        · rename_i z; exact absurd rfl z
      have nk : k ≠ i := fun z => by
        subst z; rw [List.getElem?_set] at h2
        split at h2
        · split at h2 <;> exact h2
        · rename_i z; exact absurd rfl z
      rw [List.getElem?_set_ne (Ne.symm nj)] at h1 h3
      rw [List.getElem?_set_ne (Ne.symm nk)] at h2 h4
      exact R.apart j k a n h1 h2 h3 h4 }
/-- slot i is forgotten -/
theorem Rel.drop1 {i : Nat} {v : Option V} (R : Rel K L b F s σ H) : Rel K L b F (s.set i .no) (σ.set i v) H :=
  { R.toGrd with
    len := by rw [List.length_set, List.length_set, R.len]
    slot := fun j c e => by
      by_cases q : j = i
      · subst q
        rw [List.getElem?_set] at e
        split at e
        · split at e
          · cases e; trivial
          · cases e
        · rename_i z; exact absurd rfl z
      · rw [List.getElem?_set_ne (Ne.symm q)] at e
        have x := R.slot j c e
        rw [List.getD_eq_getElem?_getD] at x ⊢
        rw [List.getElem?_set_ne (Ne.symm q)]
        exact x
    apart := fun j k a n h1 h2 h3 h4 => by
      have nj : j ≠ i := fun z => by
        subst z; rw [List.getElem?_set] at h1
        split at h1
        · split at h1 <;> exact h1
        · rename_i z; exact absurd rfl z
      have nk : k ≠ i := fun z => by
        subst z; rw [List.getElem?_set] at h2
        split at h2
        · split at h2 <;> exact h2
        · rename_i z; exact absurd rfl z
      rw [List.getElem?_set_ne (Ne.symm nj)] at h1 h3
      rw [List.getElem?_set_ne (Ne.symm nk)] at h2 h4
      exact R.apart j k a n h1 h2 h3 h4 }
/-- slot i owns the new list at p -/
theorem Rel.putO {i : Nat} {p : Addr} {vs : List V} {ds : List D} (R : Rel K L b F s σ H) (h0 : b.H0 p = none) (hd : b.dr ≠ some p) (hf : F p = none) (hn : ∀ (j : Nat), isOw s[j]? → σ[j]? ≠ some (some (.ref p)))
    (e : H p = some (.lst vs)) (h : DtAll K F vs ds) : Rel K L b F (s.set i (.ow ds)) (σ.set i (some (.ref p))) H :=
  { R.toGrd with
    len := by rw [List.length_set, List.length_set, R.len]
    slot := fun j c e' => by
      by_cases q : j = i
      · subst q
        rw [List.getElem?_set] at e'
        split at e'
        · split at e'
          · cases e'
            rename_i hj
            refine ⟨p, vs, ?_, h0, hd, hf, e, h⟩
            rw [List.getD_eq_getElem?_getD, List.getElem?_set, if_pos rfl, if_pos (by rw [R.len]; exact hj)]
            rfl
          · cases e'
        · rename_i z; exact absurd rfl z
      · rw [List.getElem?_set_ne (Ne.symm q)] at e'
        have x := R.slot j c e'
        rw [List.getD_eq_getElem?_getD] at x ⊢
        rw [List.getElem?_set_ne (Ne.symm q)]
        exact x
    apart := fun j k a n h1 h2 h3 h4 => by
      by_cases nj : j = i
      · subst nj
        rw [List.getElem?_set_ne n] at h2 h4
        have hj : j < σ.length := by
          rw [List.getElem?_set] at h3
          split at h3
          · split at h3
            · assumption
            · cases h3
          · rename_i z; exact absurd rfl z
        rw [List.getElem?_set, if_pos rfl, if_pos hj] at h3
        cases h3
        exact hn k h2 h4
      · rw [List.getElem?_set_ne (Ne.symm nj)] at h1 h3
        by_cases nk : k = i
        · subst nk
          have hk : k < σ.length := by
            rw [List.getElem?_set] at h4
            split at h4
            · split at h4
              · assumption
              · cases h4
            · rename_i z; exact absurd rfl z
          rw [List.getElem?_set, if_pos rfl, if_pos hk] at h4
          cases h4
          exact hn j h1 h3
        · rw [List.getElem?_set_ne (Ne.symm nk)] at h2 h4
          exact R.apart j k a n h1 h2 h3 h4 }
end
end FL

/-! FL2: judgements by data: expressions, tests, arguments, statements; the rules of plain code. -/
namespace FL
open PySem PySem.Spec PyProof.Rows L2

abbrev We := Sl → (D → Prop) → (Value → Prop) → Prop
abbrev Wt := Sl → (Bool → Prop) → (Value → Prop) → Prop
abbrev Wa := Sl → (List Cel → Prop) → (Value → Prop) → Prop
abbrev Wl := Sl → (List D → Prop) → (Value → Prop) → Prop

section
variable (K : PySem.W.Frag) (L : Lw) (W : WX)
/-- what a raise within an expression is wished to reach -/
def Exw (b : Beg) (F : Hp) (s : Sl) (σ : L2.St) (R : Value → Prop) : Prop := ∀ cls F' H', Rel K L b F' s σ H' → Same F F' → R cls → W cls none σ H'
def Snd (t : TE) (w : We) : Prop := ∀ (b : Beg) (F : Hp) (s : Sl) (σ : L2.St) (H : Hp) (Q : D → Prop) (R : Value → Prop) (k : VK), Rel K L b F s σ H → w s Q R → Exw K L W b F s σ R →
  (∀ F' d v H', Rel K L b F' s σ H' → Same F F' → Kp b H H' → Dt K F' v d → Q d → k v H') → t σ H k
def SndT (t : TT) (w : Wt) : Prop := ∀ (b : Beg) (F : Hp) (s : Sl) (σ : L2.St) (H : Hp) (Q : Bool → Prop) (R : Value → Prop) (k : Bool → Hp → Prop), Rel K L b F s σ H → w s Q R → Exw K L W b F s σ R →
  (∀ F' c H', Rel K L b F' s σ H' → Same F F' → Kp b H H' → Q c → k c H') → t σ H k
/-- an argument: a datum, or the draws -/
def ArgOk (b : Beg) (F : Hp) (v : V) : Cel → Prop
  | .fz d => Dt K F v d
  | .dr => ∃ a, v = .ref a ∧ b.dr = some a
  | .px a => v = .ref a
  | _ => False
def ArgsOk (b : Beg) (F : Hp) : List V → List Cel → Prop
  | [], [] => True
  | v :: vs, c :: cs => ArgOk K b F v c ∧ ArgsOk b F vs cs
  | [], _ :: _ => False
  | _ :: _, [] => False
def SndA (t : TA) (w : Wa) : Prop := ∀ (b : Beg) (F : Hp) (s : Sl) (σ : L2.St) (H : Hp) (Q : List Cel → Prop) (R : Value → Prop) (k : List V → Hp → Prop), Rel K L b F s σ H → w s Q R → Exw K L W b F s σ R →
  (∀ F' cs vs H', Rel K L b F' s σ H' → Same F F' → Kp b H H' → ArgsOk K b F' vs cs → Q cs → k vs H') → t σ H k
/-- told whole, or a list of the def's own whose items are told -/
def DpB (b : Beg) (F H : Hp) (v : V) (d : D) : Prop := Dt K F v d ∨ ∃ a vs ds, v = .ref a ∧ d = .list ds ∧ b.dr ≠ some a ∧ H a = some (.lst vs) ∧ DtAll K F vs ds
def SndB (t : TE) (w : We) : Prop := ∀ (b : Beg) (F : Hp) (s : Sl) (σ : L2.St) (H : Hp) (Q : D → Prop) (R : Value → Prop) (k : VK), Rel K L b F s σ H → w s Q R → Exw K L W b F s σ R →
  (∀ F' d v H', Rel K L b F' s σ H' → Same F F' → Kp b H H' → DpB K b F' H' v d → Q d → k v H') → t σ H k
/-- a new list, nobody's so far -/
structure Fresh (b : Beg) (F : Hp) (s : Sl) (σ : L2.St) (p : Addr) : Prop where
  h0 : b.H0 p = none
  hd : b.dr ≠ some p
  hf : F p = none
  hn : ∀ (i : Nat), isOw s[i]? → σ[i]? ≠ some (some (.ref p))
def SndN (t : TE) (w : Wl) : Prop := ∀ (b : Beg) (F : Hp) (s : Sl) (σ : L2.St) (H : Hp) (Q : List D → Prop) (R : Value → Prop) (k : VK), Rel K L b F s σ H → w s Q R → Exw K L W b F s σ R →
  (∀ F' ds p vs H', Rel K L b F' s σ H' → Same F F' → Kp b H H' → Fresh b F' s σ p → H' p = some (.lst vs) → DtAll K F' vs ds → Q ds → k (.ref p) H') → t σ H k
/-- what is walked, turn by turn, while it is told in F; P: what must hold of the slots -/
def WalkD (b : Beg) (F : Hp) (P : Sl → L2.St → Prop) (J : It) (ds : List D) : Prop := ∀ (b1 : Beg) F1 s1 σ1 H1, Rel K L b1 F1 s1 σ1 H1 → Same F F1 → P s1 σ1 →
  (∀ i, i < ds.length → J.go i H1) ∧ J.stop ds.length H1 ∧ ∀ i x H', i < ds.length → J.yld i H1 x H' → ∃ F2 d, ds[i]? = some d ∧ Rel K L b1 F2 s1 σ1 H' ∧ Same F1 F2 ∧ Kp b1 H1 H' ∧ Dt K F2 x d
def SndI (wi : TI) (w : Wl) : Prop := ∀ (b : Beg) (F : Hp) (s : Sl) (σ : L2.St) (H : Hp) (Q : List D → Prop) (R : Value → Prop) (k : It → Hp → Prop), Rel K L b F s σ H → w s Q R → Exw K L W b F s σ R →
  (∀ F' ds J H', Rel K L b F' s σ H' → Same F F' → Kp b H H' → WalkD K L b F' (fun _ _ => True) J ds → Q ds → k J H') → wi σ H k
abbrev Wg := D → Sl → (Sl → Prop) → Prop
def SndG (g : TG) (w : Wg) : Prop := ∀ (b : Beg) (F : Hp) (s : Sl) (σ : L2.St) (H : Hp) (v : V) (d : D) (Q : Sl → Prop) (k : L2.St → Hp → Prop), Rel K L b F s σ H → Dt K F v d → w d s Q →
  (∀ F' s' σ' H', Rel K L b F' s' σ' H' → Same F F' → Q s' → k σ' H') → g v σ H k
def SndGs (g : TGs) (w : List D → Sl → (Sl → Prop) → Prop) : Prop := ∀ (b : Beg) (F : Hp) (s : Sl) (σ : L2.St) (H : Hp) (vs : List V) (ds : List D) (Q : Sl → Prop) (k : L2.St → Hp → Prop), Rel K L b F s σ H → DtAll K F vs ds → w ds s Q →
  (∀ F' s' σ' H', Rel K L b F' s' σ' H' → Same F F' → Q s' → k σ' H') → g vs σ H k
structure En where
  nx : Sl → Prop
  rt : D → Prop
  ex : Value → Prop
  bk : Sl → Prop := fun _ => False
  ct : Sl → Prop := fun _ => False
  rn : List D → Prop := fun _ => False
abbrev Ws := Sl → En → Prop
structure EnOk (b : Beg) (F : Hp) (E : En) (D' : Ends) : Prop where
  nx : ∀ F' s' σ' H', Rel K L b F' s' σ' H' → Same F F' → E.nx s' → D'.nx σ' H'
  rt : ∀ F' s' σ' H' v d, Rel K L b F' s' σ' H' → Same F F' → Dt K F' v d → E.rt d → D'.rt v H'
  bk : ∀ F' s' σ' H', Rel K L b F' s' σ' H' → Same F F' → E.bk s' → D'.bk σ' H'
  ct : ∀ F' s' σ' H', Rel K L b F' s' σ' H' → Same F F' → E.ct s' → D'.ct σ' H'
  ex : ∀ cls F' s' σ' H', Rel K L b F' s' σ' H' → Same F F' → E.ex cls → W cls none σ' H'
  rn : ∀ F' s' σ' H' p vs ds, Rel K L b F' s' σ' H' → Same F F' → Fresh b F' s' σ' p → H' p = some (.lst vs) → DtAll K F' vs ds → E.rn ds → D'.rt (.ref p) H'
def SndS (t : TS) (w : Ws) : Prop := ∀ (b : Beg) (F : Hp) (s : Sl) (σ : L2.St) (H : Hp) (E : En) (D' : Ends), Rel K L b F s σ H → w s E → EnOk K L W b F E D' → t D' σ H
end

section
variable (X : Cx) (L : Lw) (W : WX)
structure FE (e : Expr) (t : TE) (w : We) : Prop where
  pe : PE X e t
  snd : Snd X.K L W t w
structure FT (e : Expr) (t : TT) (w : Wt) : Prop where
  pe : PT X e t
  snd : SndT X.K L W t w
structure FW (e : Expr) (t : TT) (w : Wt) : Prop where
  pe : PW X e t
  snd : SndT X.K L W t w
structure FA (es : List Expr) (t : TA) (w : Wa) : Prop where
  pe : PA X es t
  snd : SndA X.K L W t w
structure FB (e : Expr) (t : TE) (w : We) : Prop where
  pe : PE X e t
  snd : SndB X.K L W t w
structure FN (e : Expr) (t : TE) (w : Wl) : Prop where
  pe : PE X e t
  snd : SndN X.K L W t w
structure FI (tg iter : Expr) (t : TI) (w : Wl) : Prop where
  pe : PI X tg iter t
  snd : SndI X.K L W t w
structure FG (tg : Expr) (g : TG) (w : Wg) : Prop where
  pe : PG X tg g
  snd : SndG X.K L g w
structure FGs (tgs : List Expr) (g : TGs) (w : List D → Sl → (Sl → Prop) → Prop) : Prop where
  pe : PGs X tgs g
  snd : SndGs X.K L g w
structure FS (st : Stmt) (t : TS) (w : Ws) : Prop where
  pe : PS X st t
  snd : SndS X.K L W t w
structure FSs (sts : List Stmt) (t : TS) (w : Ws) : Prop where
  pe : PSs X sts t
  snd : SndS X.K L W t w
end

section
variable {X : Cx} {L : Lw} {W : WX} {pos : Pos}
theorem same_trans {F F1 F2 : Hp} (a : Same F F1) (b : Same F1 F2) : Same F F2 := a.trans b
theorem Exw.mono {K : PySem.W.Frag} {b : Beg} {F F' : Hp} {s : Sl} {σ : L2.St} {R : Value → Prop} (x : Exw K L W b F s σ R) (m : Same F F') : Exw K L W b F' s σ R := fun cls F1 H1 I m1 q => x cls F1 H1 I (m.trans m1) q

/-! ### names, constants -/
def wVar (i : Nat) : We := fun s Q _ => match s[i]? with
  | some (.fz d) => Q d
  | _ => False
theorem fe_var (i : Nat) {x : Str} (hN : X.N[i]? = some x := by rfl) (hv : Vis X.env.scope x := by first | exact Or.inl rfl | exact Or.inr (Or.inl rfl) | exact Or.inr (Or.inr rfl)) (hd : (x == ("__debug__" : Str)) = false := by decide)
    (hcd : (x == ("__classdict__" : Str)) = false := by decide) : FE X L W (.Name x pos) (tVar i) (wVar i) := by
  refine ⟨pv i hN hv hd hcd, fun b F s σ H Q R k I h hx kk => ?_⟩
  unfold wVar at h
  split at h
  · rename_i d e
    obtain ⟨v, e1, h1⟩ := I.slot i _ e
    refine ⟨v, ?_, kk F d v H I (Same.refl F) Kp.refl h1 h⟩
    rw [List.getD_eq_getElem?_getD] at e1
    cases q : σ[i]? with
    | none => rw [q] at e1; cases e1
    | some u => rw [q] at e1; exact congrArg some e1
  · exact h.elim
/-- a slot whose list may still grow, only looked at -/
def wVarB (i : Nat) : We := fun s Q _ => match s[i]? with
  | some (.fz d) => Q d
  | some (.ow ds) => Q (.list ds)
  | some (.lk ds) => Q (.list ds)
  | _ => False
theorem fb_var (i : Nat) {x : Str} (hN : X.N[i]? = some x := by rfl) (hv : Vis X.env.scope x := by first | exact Or.inl rfl | exact Or.inr (Or.inl rfl) | exact Or.inr (Or.inr rfl)) (hd : (x == ("__debug__" : Str)) = false := by decide)
    (hcd : (x == ("__classdict__" : Str)) = false := by decide) : FB X L W (.Name x pos) (tVar i) (wVarB i) := by
  refine ⟨pv i hN hv hd hcd, fun b F s σ H Q R k I h hx kk => ?_⟩
  have out : ∀ {v : V}, σ.getD i none = some v → σ[i]? = some (some v) := fun {v} e1 => by
    rw [List.getD_eq_getElem?_getD] at e1
    cases q : σ[i]? with
    | none => rw [q] at e1; cases e1
    | some u => rw [q] at e1; exact congrArg some e1
  unfold wVarB at h
  split at h
  · rename_i d e
    obtain ⟨v, e1, h1⟩ := I.slot i _ e
    exact ⟨v, out e1, kk F d v H I (Same.refl F) Kp.refl (.inl h1) h⟩
  · rename_i ds e
    obtain ⟨a, vs, e1, h1, h2, h3, h4, h5⟩ := I.slot i _ e
    exact ⟨_, out e1, kk F _ _ H I (Same.refl F) Kp.refl (.inr ⟨a, vs, ds, rfl, rfl, h2, h4, h5⟩) h⟩
  · rename_i ds e
    obtain ⟨a, vs, e1, h1, h2, h4, h5⟩ := I.slot i _ e
    exact ⟨_, out e1, kk F _ _ H I (Same.refl F) Kp.refl (.inr ⟨a, vs, ds, rfl, rfl, h2, h4, h5⟩) h⟩
  · exact h.elim
theorem fb_fe {e : Expr} {t : TE} {w : We} (h : FE X L W e t w) : FB X L W e t w :=
  ⟨h.pe, fun b F s σ H Q R k I q hx kk => h.snd b F s σ H Q R k I q hx fun F' d v H' I' sm kp r => kk F' d v H' I' sm kp (.inl r)⟩
def wC (d : D) : We := fun _ Q _ => Q d
theorem snd_c {v : V} {d : D} (h : ∀ F, Dt X.K F v d) : Snd X.K L W (tC v) (wC d) := fun b F s σ H Q R k I q hx kk => kk F d v H I (Same.refl F) Kp.refl (h F) q
theorem fe_int {i : Int} {j : Nat} : FE X L W (.Constant (.int i) j pos) (tC (.int i)) (wC (.int i)) := ⟨pe_int, snd_c fun _ => .int i⟩
theorem fe_bl {i : Bool} {j : Nat} : FE X L W (.Constant (.bool i) j pos) (tC (.bl i)) (wC (.bool i)) := ⟨pe_bl, snd_c fun _ => .bl i⟩
theorem fe_non {j : Nat} : FE X L W (.Constant .none j pos) (tC .non) (wC .none) := ⟨pe_non, snd_c fun _ => .non⟩
theorem fe_str {x : Str} {j : Nat} : FE X L W (.Constant (.str x) j pos) (tC (.str x)) (wC (.str x)) := ⟨pe_str, snd_c fun _ => .str x⟩
/-- a constant of the module's top -/
theorem fe_glob {x : Str} {v : V} {u : Value} {d : D} (hg : Gl X x) (hm : X.mg x = some u) (r : RelV v u) (hp : Dt X.K (fun _ => none) v d) (hd : (x == ("__debug__" : Str)) = false := by decide) : FE X L W (.Name x pos) (tC v) (wC d) :=
  ⟨pe_glob hg hm r hd, snd_c fun F => dp_mono (fun _ _ z => by cases z) hp⟩

/-! ### operators by data -/
structure OpD (X : Cx) (L : Lw) (f : Value → Value → Sem Value) (r : R2) (w : D → D → (D → Prop) → Prop) : Prop where
  op : OpR X f r
  snd : ∀ (b : Beg) (F : Hp) (s : Sl) (σ : L2.St) (H : Hp) (x y : V) (d e : D) (Q : D → Prop) (k : VK), Rel X.K L b F s σ H → Dt X.K F x d → Dt X.K F y e → w d e Q →
    (∀ F' c v H', Rel X.K L b F' s σ H' → Same F F' → Kp b H H' → Dt X.K F' v c → Q c → k v H') → r x y H k
def wOp (w : D → D → (D → Prop) → Prop) (wa wb : We) : We := fun s Q R => wa s (fun x => wb s (fun y => w x y Q) R) R
theorem fe_op {op : Operator} {r : R2} {w : D → D → (D → Prop) → Prop} {a c : Expr} {ta tb : TE} {wa wb : We} (o : OpD X L (binaryOp op) r w) (ha : FE X L W a ta wa) (hb : FE X L W c tb wb) : FE X L W (.BinOp a op c pos) (tOp r ta tb) (wOp w wa wb) := by
  refine ⟨pe_op o.op ha.pe hb.pe, fun b F s σ H Q R k I h hx kk => ?_⟩
  refine ha.snd b F s σ H _ R _ I h hx fun F1 d1 v1 H1 I1 m1 k1 r1 h1 => ?_
  refine hb.snd b F1 s σ H1 _ R _ I1 h1 (hx.mono m1) fun F2 d2 v2 H2 I2 m2 k2 r2 h2 => ?_
  exact o.snd b F2 s σ H2 v1 v2 d1 d2 Q k I2 (dp_mono m2 r1) r2 h2 fun F3 c v H3 I3 m3 k3 r3 q => kk F3 c v H3 I3 (m1.trans (m2.trans m3)) (k1.trans (k2.trans k3)) r3 q
def dI (C : Int → Int → Prop) (g : Int → Int → Int) : D → D → (D → Prop) → Prop := fun d e Q => match d, e with
  | .int i, .int j => C i j ∧ Q (.int (g i j))
  | _, _ => False
def dI0 (g : Int → Int → Int) : D → D → (D → Prop) → Prop := fun d e Q => match d, e with
  | .int i, .int j => Q (.int (g i j))
  | _, _ => False
theorem opd_I {f : Value → Value → Sem Value} {C : Int → Int → Prop} {g : Int → Int → Int} (h : OpR X f (rI C fun i j => .int (g i j))) : OpD X L f (rI C fun i j => .int (g i j)) (dI C g) := by
  refine ⟨h, fun b F s σ H x y d e Q k I hx hy q kk => ?_⟩
  unfold dI at q
  split at q
  · cases hx; cases hy
    exact ⟨_, _, rfl, rfl, q.1, kk F _ _ H I (Same.refl F) Kp.refl (.int _) q.2⟩
  · exact q.elim
theorem opd_I0 {f : Value → Value → Sem Value} {g : Int → Int → Int} (h : OpR X f (rI0 fun i j => .int (g i j))) : OpD X L f (rI0 fun i j => .int (g i j)) (dI0 g) := by
  refine ⟨h, fun b F s σ H x y d e Q k I hx hy q kk => ?_⟩
  unfold dI0 at q
  split at q
  · cases hx; cases hy
    exact ⟨_, _, rfl, rfl, kk F _ _ H I (Same.refl F) Kp.refl (.int _) q⟩
  · exact q.elim
/-- + -/
def rCatL (K : PySem.W.Frag) : R2 := fun x y H Q => ∃ l b xs zs, x = .ref l ∧ y = .ref b ∧ SqL K H l xs ∧ SqL K H b zs ∧ xs.length + zs.length ≤ sizeLine ∧ ∀ p, H p = none → Q (.ref p) (upd H p (.lst (xs ++ zs)))
theorem op_catL : OpR X (binaryOp .Add) (rCatL X.K) := by
  intro pins s σ H x y v u Q I rx ry h
  obtain ⟨l, b, xs, zs, rfl, rfl, hH, hB, hz, q⟩ := h
  cases rx
  cases ry
  obtain ⟨its, r, ⟨⟨c1, d1, t1, s1⟩, n, ho, hc, hdn, hd⟩, z⟩ := I.list hH
  obtain ⟨its2, r2, ⟨⟨c2, d2, t2, s2⟩, n2, ho2, hc2, hdn2, hd2⟩, z2⟩ := I.list hB
  have l1 := r.length
  have l2 := r2.length
  simp only at hc hd hdn hc2 hd2 hdn2
  subst hc hd hdn hc2 hd2 hdn2
  refine concat_meets ⟨_, ho, rfl⟩ ⟨_, ho2, rfl⟩ noFill_list_add seq_list_add PySem.F.slot_list_add PySem.F.entry_list_add (PySem.F.args_list_add_2 _ _) (list_addW l b its.toArray its2.toArray n n2 _ _ s1 s2 (by rw [List.size_toArray, List.size_toArray]; omega)) ⟨ho, ho2, ?_⟩
  have ea : its.toArray ++ its2.toArray = (its ++ its2).toArray := by simp
  rw [ea]
  exact ⟨.ref _, _, I.lnew (t' := s.toks) (r.append r2) (by rw [List.length_append]; omega), rfl, q _ I.fresh⟩
end
end FL

/-! FL3: operators, comparisons, tests, subscripts, displays. -/
namespace FL
open PySem PySem.Spec PyProof.Rows L2
section
variable {X : Cx} {L : Lw} {W : WX} {pos : Pos} {a c : Expr} {ta tb : TE} {wa wb : We}

/-! ### + - * // % ** << >> ^ & -/
def dAdd : D → D → (D → Prop) → Prop := fun d e Q => match d, e with
  | .int i, .int j => Q (.int (i + j))
  | .str x, .str y => x.length + y.length ≤ sizeLine ∧ Q (.str (x ++ y))
  | .tuple xs, .tuple ys => xs.length + ys.length ≤ sizeLine ∧ Q (.tuple (xs ++ ys))
  | .list xs, .list ys => xs.length + ys.length ≤ sizeLine ∧ Q (.list (xs ++ ys))
  | _, _ => False
abbrev rStrAdd : R2 := fun x y H Q => ∃ i j, x = .str i ∧ y = .str j ∧ i.length + j.length ≤ sizeLine ∧ Q (.str (i ++ j)) H
abbrev rAddA (K : PySem.W.Frag) : R2 := fun x y H Q => rI0 (fun i j => .int (i + j)) x y H Q ∨ (rStrAdd x y H Q ∨ (rCatA K x y H Q ∨ rCatL K x y H Q))
theorem opd_add : OpD X L (binaryOp .Add) (rAddA X.K) dAdd := by
  refine ⟨op_add.or (op_add_str.or (op_catA.or op_catL)), fun b F s σ H x y d e Q k I hx hy q kk => ?_⟩
  unfold dAdd at q
  split at q
  · cases hx; cases hy
    exact .inl ⟨_, _, rfl, rfl, kk F _ _ H I (Same.refl F) Kp.refl (.int _) q⟩
  · cases hx; cases hy
    exact .inr (.inl ⟨_, _, rfl, rfl, q.1, kk F _ _ H I (Same.refl F) Kp.refl (.str _) q.2⟩)
  · rename_i xs ys
    cases hx with
    | tup h1 h2 =>
      cases hy with
      | tup h3 h4 =>
        have l1 := dps_len h2
        have l2 := dps_len h4
        refine .inr (.inr (.inl ⟨_, _, _, _, rfl, rfl, same_sqT I.sub h1, same_sqT I.sub h3, by omega, fun e => ?_, fun e1 e2 => ?_, fun e1 e2 p hp => ?_⟩))
        · subst e
          have z : xs = [] := List.eq_nil_of_length_eq_zero l1.symm
          subst z
          exact kk F _ _ H I (Same.refl F) Kp.refl (.tup h3 h4) q.2
        · subst e2
          have z : ys = [] := List.eq_nil_of_length_eq_zero l2.symm
          subst z
          rw [List.append_nil] at q
          exact kk F _ _ H I (Same.refl F) Kp.refl (.tup h1 h2) q.2
        · have hf := I.f_none hp
          exact kk _ _ _ _ (I.new1 hp (fun ps z => by cases z)) (same_upd hf) (Kp.of (same_upd hp)) (.tup (.inl (.inl upd_same)) (dps_mono (same_upd hf) (dps_app h2 h4))) q.2
  · cases hx with
    | lst h1 h2 =>
      cases hy with
      | lst h3 h4 =>
        have l1 := dps_len h2
        have l2 := dps_len h4
        refine .inr (.inr (.inr ⟨_, _, _, _, rfl, rfl, I.sub.seq h1, I.sub.seq h3, by omega, fun p hp => ?_⟩))
        have hf := I.f_none hp
        exact kk _ _ _ _ (I.new1 hp (fun ps z => by cases z)) (same_upd hf) (Kp.of (same_upd hp)) (.lst (.inl (.inl upd_same)) (dps_mono (same_upd hf) (dps_app h2 h4))) q.2
  · exact q.elim
theorem fe_add (ha : FE X L W a ta wa) (hb : FE X L W c tb wb) : FE X L W (.BinOp a .Add c pos) (tOp (rAddA X.K) ta tb) (wOp dAdd wa wb) := fe_op opd_add ha hb
theorem fe_sub (ha : FE X L W a ta wa) (hb : FE X L W c tb wb) : FE X L W (.BinOp a .Sub c pos) (tOp (rI0 fun i j => .int ((fun i j => i - j) i j)) ta tb) (wOp (dI0 fun i j => i - j) wa wb) := fe_op (opd_I0 op_sub) ha hb
/-- the product is within the machine's bounds -/
def MulOk (i j : Int) : Prop := IntMulOk i j
theorem mul_l {i j : Int} (h1 : -(2 ^ 64) < i) (h2 : i < 2 ^ 64) : MulOk i j := CMul.ok (.inl ⟨h1, h2⟩)
theorem mul_r {i j : Int} (h1 : -(2 ^ 64) < j) (h2 : j < 2 ^ 64) : MulOk i j := CMul.ok (.inr ⟨h1, h2⟩)
theorem mul_w {i j : Int} {m n : Nat} (h1 : i.natAbs < 2 ^ m) (h2 : j.natAbs < 2 ^ n) (h : 0 < m ∧ 0 < n ∧ m + n ≤ 1000000) : MulOk i j := CMulW.ok (wide_mul h1 h2 h.1 h.2.1 h.2.2)
theorem op_mulA : OpR X (binaryOp .Mult) (rI MulOk fun i j => .int (i * j)) := opI fun _ _ _ _ _ _ _ hc q => mul_int q hc
theorem fe_mul (ha : FE X L W a ta wa) (hb : FE X L W c tb wb) : FE X L W (.BinOp a .Mult c pos) (tOp (rI MulOk fun i j => .int ((fun i j => i * j) i j)) ta tb) (wOp (dI MulOk fun i j => i * j) wa wb) := fe_op (opd_I op_mulA) ha hb
/-- a divisor within the machine's bounds -/
def DivOk (j : Int) : Prop := j.natAbs.log2 < 9000
theorem div_s {j : Int} (h1 : -(2 ^ 64) < j) (h2 : j < 2 ^ 64) : DivOk j := by
  unfold DivOk
  have h3 : j.natAbs < 2 ^ 65 := by omega
  exact Nat.lt_trans (PySem.Flt.log2_lt_of (by decide : 0 < 65) h3) (by decide)
theorem div_w {j : Int} {m : Nat} (h : j.natAbs < 2 ^ m) (h2 : 0 < m ∧ m ≤ 9000) : DivOk j := Nat.lt_of_lt_of_le (PySem.Flt.log2_lt_of h2.1 h) h2.2
theorem op_fdivP : OpR X (binaryOp .FloorDiv) (rI (fun _ j => 0 < j ∧ DivOk j) fun i j => .int (i / j)) := opI fun i j _ _ _ _ _ hc q => by
  have h1 : (0 : Int) < j := hc.1
  exact floordiv_int (by omega) (by rw [Int.fdiv_eq_ediv_of_nonneg i (by omega)]; exact q) (.inl (PyProof.noPylong_of_log2 hc.2))
theorem op_fdivA : OpR X (binaryOp .FloorDiv) (rI (fun _ j => j ≠ 0 ∧ DivOk j) fun i j => .int (i.fdiv j)) := opI fun i j _ _ _ _ _ hc q =>
  floordiv_int hc.1 q (.inl (PyProof.noPylong_of_log2 hc.2))
theorem fe_div (ha : FE X L W a ta wa) (hb : FE X L W c tb wb) : FE X L W (.BinOp a .FloorDiv c pos) (tOp (rI (fun _ j => 0 < j ∧ DivOk j) fun i j => .int ((fun i j => i / j) i j)) ta tb) (wOp (dI (fun _ j => 0 < j ∧ DivOk j) fun i j => i / j) wa wb) := fe_op (opd_I op_fdivP) ha hb
theorem fe_divN (ha : FE X L W a ta wa) (hb : FE X L W c tb wb) : FE X L W (.BinOp a .FloorDiv c pos) (tOp (rI (fun _ j => j ≠ 0 ∧ DivOk j) fun i j => .int ((fun i j => i.fdiv j) i j)) ta tb) (wOp (dI (fun _ j => j ≠ 0 ∧ DivOk j) fun i j => i.fdiv j) wa wb) := fe_op (opd_I op_fdivA) ha hb
theorem fe_mod (ha : FE X L W a ta wa) (hb : FE X L W c tb wb) : FE X L W (.BinOp a .Mod c pos) (tOp (rI (fun _ j => 0 < j) fun i j => .int ((fun i j => i % j) i j)) ta tb) (wOp (dI (fun _ j => 0 < j) fun i j => i % j) wa wb) := fe_op (opd_I op_mod) ha hb
theorem fe_modN (ha : FE X L W a ta wa) (hb : FE X L W c tb wb) : FE X L W (.BinOp a .Mod c pos) (tOp (rI (fun _ j => j ≠ 0) fun i j => .int ((fun i j => i.fmod j) i j)) ta tb) (wOp (dI (fun _ j => j ≠ 0) fun i j => i.fmod j) wa wb) := fe_op (opd_I op_modN) ha hb
theorem fe_pow (ha : FE X L W a ta wa) (hb : FE X L W c tb wb) : FE X L W (.BinOp a .Pow c pos) (tOp (rI CPow fun i j => .int ((fun i j => i ^ j.toNat) i j)) ta tb) (wOp (dI CPow fun i j => i ^ j.toNat) wa wb) := fe_op (opd_I op_pow) ha hb
theorem fe_shl (ha : FE X L W a ta wa) (hb : FE X L W c tb wb) : FE X L W (.BinOp a .LShift c pos) (tOp (rI CPow fun i j => .int ((fun i j => i * 2 ^ j.toNat) i j)) ta tb) (wOp (dI CPow fun i j => i * 2 ^ j.toNat) wa wb) := fe_op (opd_I op_shl) ha hb
theorem fe_shr (ha : FE X L W a ta wa) (hb : FE X L W c tb wb) : FE X L W (.BinOp a .RShift c pos) (tOp (rI (fun _ j => 0 ≤ j) fun i j => .int ((fun i j => i / 2 ^ j.toNat) i j)) ta tb) (wOp (dI (fun _ j => 0 ≤ j) fun i j => i / 2 ^ j.toNat) wa wb) := fe_op (opd_I op_shr) ha hb
theorem fe_xor (ha : FE X L W a ta wa) (hb : FE X L W c tb wb) : FE X L W (.BinOp a .BitXor c pos) (tOp (rI0 fun i j => .int ((Builtin.bitXor) i j)) ta tb) (wOp (dI0 Builtin.bitXor) wa wb) := fe_op (opd_I0 op_xor) ha hb
theorem fe_and (ha : FE X L W a ta wa) (hb : FE X L W c tb wb) : FE X L W (.BinOp a .BitAnd c pos) (tOp (rI0 fun i j => .int ((Builtin.bitAnd) i j)) ta tb) (wOp (dI0 Builtin.bitAnd) wa wb) := fe_op (opd_I0 op_and) ha hb
def wNeg (wa : We) : We := fun s Q R => wa s (fun d => match d with | .int i => Q (.int (-i)) | _ => False) R
theorem fe_neg (ha : FE X L W a ta wa) : FE X L W (.UnaryOp .USub a pos) (tUn (rU fun i => .int (-i)) ta) (wNeg wa) := by
  refine ⟨pe_un un_neg ha.pe, fun b F s σ H Q R k I h hx kk => ?_⟩
  refine ha.snd b F s σ H _ R _ I h hx fun F1 d1 v1 H1 I1 m1 k1 r1 h1 => ?_
  split at h1
  · cases r1
    exact ⟨_, rfl, kk F1 _ _ H1 I1 m1 k1 (.int _) h1⟩
  · exact h1.elim

/-! ### comparisons -/
/-- a comparison by data: two operands told or looked at -/
structure CmD (X : Cx) (L : Lw) (op : CmpOp) (r : R2) (w : D → D → (Bool → Prop) → Prop) : Prop where
  opr : OpR X (compareOp op) r
  mrk : op ≠ .In ∧ op ≠ .NotIn
  snd : ∀ (b : Beg) (F : Hp) (s : Sl) (σ : L2.St) (H : Hp) (x y : V) (d e : D) (Q : Bool → Prop) (k : VK), Rel X.K L b F s σ H → DpB X.K b F H x d → DpB X.K b F H y e → w d e Q → (∀ c, Q c → k (.bl c) H) → r x y H k
theorem DpB.keep {K : PySem.W.Frag} {b : Beg} {F F' H H' : Hp} {v : V} {d : D} (h : DpB K b F H v d) (m : Same F F') (kp : Kp b H H') : DpB K b F' H' v d := by
  rcases h with h | ⟨a, vs, ds, e1, e2, e3, e4, e5⟩
  · exact .inl (dp_mono m h)
  · exact .inr ⟨a, vs, ds, e1, e2, e3, kp _ _ e4 e3 (fun ps z => by cases z), dps_mono m e5⟩
/-- what is looked at, over the heap as it is -/
theorem DpB.at {K : PySem.W.Frag} {b : Beg} {F H : Hp} {v : V} {d : D} (h : DpB K b F H v d) (m : Same F H) : Dt K H v d := by
  rcases h with h | ⟨a, vs, ds, rfl, rfl, e3, e4, e5⟩
  · exact dp_mono m h
  · exact .lst (.inl (.inl e4)) (dps_mono m e5)
def wCmpV (w : D → D → (Bool → Prop) → Prop) (wa wb : We) : We := fun s Q R => wa s (fun x => wb s (fun y => w x y fun z => Q (.bool z)) R) R
def wCmpT (w : D → D → (Bool → Prop) → Prop) (wa wb : We) : Wt := fun s Q R => wa s (fun x => wb s (fun y => w x y Q) R) R
theorem fe_cmp {op : CmpOp} {r : R2} {w : D → D → (Bool → Prop) → Prop} (o : CmD X L op r w) (ha : FB X L W a ta wa) (hb : FB X L W c tb wb) : FE X L W (.Compare a [op] [c] pos) (tOp r ta tb) (wCmpV w wa wb) := by
  refine ⟨pe_cmpR o.opr ha.pe hb.pe (nomark _ o.mrk.1 o.mrk.2), fun b F s σ H Q R k I h hx kk => ?_⟩
  refine ha.snd b F s σ H _ R _ I h hx fun F1 d1 v1 H1 I1 m1 k1 r1 h1 => ?_
  refine hb.snd b F1 s σ H1 _ R _ I1 h1 (hx.mono m1) fun F2 d2 v2 H2 I2 m2 k2 r2 h2 => ?_
  exact o.snd b F2 s σ H2 v1 v2 d1 d2 _ k I2 (r1.keep m2 k2) r2 h2 fun z q => kk F2 _ _ H2 I2 (m1.trans m2) (k1.trans k2) (.bl z) q
theorem ft_cmp {op : CmpOp} {r : R2} {w : D → D → (Bool → Prop) → Prop} (o : CmD X L op r w) (ha : FB X L W a ta wa) (hb : FB X L W c tb wb) : FT X L W (.Compare a [op] [c] pos) (tTest (tOp r ta tb)) (wCmpT w wa wb) := by
  refine ⟨pt_cmpR o.opr ha.pe hb.pe (nomark _ o.mrk.1 o.mrk.2), fun b F s σ H Q R k I h hx kk => ?_⟩
  refine ha.snd b F s σ H _ R _ I h hx fun F1 d1 v1 H1 I1 m1 k1 r1 h1 => ?_
  refine hb.snd b F1 s σ H1 _ R _ I1 h1 (hx.mono m1) fun F2 d2 v2 H2 I2 m2 k2 r2 h2 => ?_
  exact o.snd b F2 s σ H2 v1 v2 d1 d2 _ _ I2 (r1.keep m2 k2) r2 h2 fun z q => ⟨z, rfl, kk F2 z H2 I2 (m1.trans m2) (k1.trans k2) q⟩
/-- two scalars whose == is plain, or two that are laid as data -/
def scalD : D → D → Bool
  | .none, .none => true | .none, .int _ => true | .int _, .none => true | .none, .bool _ => true | .bool _, .none => true | .none, .str _ => true | .str _, .none => true
  | .int _, .int _ => true | .bool _, .bool _ => true | .str _, .str _ => true
  | .int _, .str _ => true | .str _, .int _ => true | .bool _, .str _ => true | .str _, .bool _ => true
  | _, _ => false
def EqOk (d e : D) : Prop := scalD d e = true ∨ (SeqAt.shaped d = true ∧ SeqAt.shaped e = true)
def dEq : D → D → (Bool → Prop) → Prop := fun d e Q => EqOk d e ∧ Q (PyData.eqv d e)
def dNe : D → D → (Bool → Prop) → Prop := fun d e Q => EqOk d e ∧ Q (!PyData.eqv d e)
abbrev rEqA (K : PySem.W.Frag) : R2 := fun x y H Q => rEq x y H Q ∨ rEqD K x y H Q
abbrev rNeA (K : PySem.W.Frag) : R2 := fun x y H Q => rNe x y H Q ∨ rNeD K x y H Q
theorem scal_eq {K : PySem.W.Frag} {H : Hp} {x y : V} {d e : D} (hx : Dt K H x d) (hy : Dt K H y e) (h : scalD d e = true) : scal x y = true ∧ decide (x = y) = PyData.eqv d e := by
  have ne : ∀ {b c : Bool}, (b == c) = decide (b = c) := fun {b c} => by cases b <;> cases c <;> rfl
  cases hx <;> cases hy <;> first
    | (refine ⟨rfl, ?_⟩; first | rfl | (rw [PyData.eqv]; first | exact dec_int | exact dec_bl | exact dec_str) | (simp only [PyData.eqv]; rfl) | (simp [PyData.eqv]))
    | (cases h)
theorem cmd_eq {k : Nat} (hr : Room k X.A) : CmD X L .Eq (rEqA X.K) dEq := by
  refine ⟨op_eq.or (op_eqD hr.units), ⟨by decide, by decide⟩, fun b F s σ H x y d e Q k I hx hy q kk => ?_⟩
  have hx' := hx.at I.sub
  have hy' := hy.at I.sub
  rcases q.1 with h | h
  · obtain ⟨h1, h2⟩ := scal_eq hx' hy' h
    exact .inl ⟨h1, by rw [h2]; exact kk _ q.2⟩
  · exact .inr ⟨d, e, dt_dp hx', dt_dp hy', h.1, h.2, kk _ q.2⟩
theorem cmd_ne {k : Nat} (hr : Room k X.A) : CmD X L .NotEq (rNeA X.K) dNe := by
  refine ⟨op_ne.or (op_neD hr.units), ⟨by decide, by decide⟩, fun b F s σ H x y d e Q k I hx hy q kk => ?_⟩
  have hx' := hx.at I.sub
  have hy' := hy.at I.sub
  rcases q.1 with h | h
  · obtain ⟨h1, h2⟩ := scal_eq hx' hy' h
    exact .inl ⟨h1, by rw [h2]; exact kk _ q.2⟩
  · exact .inr ⟨d, e, dt_dp hx', dt_dp hy', h.1, h.2, kk _ q.2⟩
def dO (p : Int → Int → Bool) : D → D → (Bool → Prop) → Prop := fun d e Q => match d, e with
  | .int i, .int j => Q (p i j)
  | _, _ => False
theorem cmd_O {op : CmpOp} {p : Int → Int → Bool} (h : OpR X (compareOp op) (rI0 fun i j => .bl (p i j))) (hm : op ≠ .In ∧ op ≠ .NotIn) : CmD X L op (rI0 fun i j => .bl (p i j)) (dO p) := by
  refine ⟨h, hm, fun b F s σ H x y d e Q k I hx hy q kk => ?_⟩
  unfold dO at q
  split at q
  · have hx' := hx.at I.sub
    have hy' := hy.at I.sub
    cases hx'; cases hy'
    exact ⟨_, _, rfl, rfl, kk _ q⟩
  · exact q.elim
theorem cmd_lt : CmD X L .Lt (rI0 fun i j => .bl (decide (i < j))) (dO fun i j => decide (i < j)) := cmd_O op_lt ⟨by decide, by decide⟩
theorem cmd_le : CmD X L .LtE (rI0 fun i j => .bl (decide (i ≤ j))) (dO fun i j => decide (i ≤ j)) := cmd_O op_le ⟨by decide, by decide⟩
theorem cmd_gt : CmD X L .Gt (rI0 fun i j => .bl (decide (j < i))) (dO fun i j => decide (j < i)) := cmd_O op_gt ⟨by decide, by decide⟩
theorem cmd_ge : CmD X L .GtE (rI0 fun i j => .bl (decide (j ≤ i))) (dO fun i j => decide (j ≤ i)) := cmd_O op_ge ⟨by decide, by decide⟩
def isNoneD : D → Bool
  | .none => true
  | _ => false
def dIsN : D → D → (Bool → Prop) → Prop := fun d e Q => match e with
  | .none => Q (isNoneD d)
  | .bool c => (match d with | .bool b => Q (decide (b = c)) | _ => False)
  | _ => False
def dNotN : D → D → (Bool → Prop) → Prop := fun d e Q => match e with
  | .none => Q (!isNoneD d)
  | .bool c => (match d with | .bool b => Q (!decide (b = c)) | _ => False)
  | _ => False
abbrev rIsA : R2 := fun x y H Q => (y = .non ∧ Q (.bl (decide (x = .non))) H) ∨ rIsB x y H Q
abbrev rNotA : R2 := fun x y H Q => (y = .non ∧ Q (.bl (!decide (x = .non))) H) ∨ rNotB x y H Q
theorem isn_dec {K : PySem.W.Frag} {H : Hp} {x : V} {d : D} (hx : Dt K H x d) : decide (x = .non) = isNoneD d := by
  cases hx <;> first | rfl | (apply decide_eq_false; intro z; cases z)
theorem cmd_is : CmD X L .Is rIsA dIsN := by
  refine ⟨op_isN.or op_isBl, ⟨by decide, by decide⟩, fun b F s σ H x y d e Q k I hx hy q kk => ?_⟩
  have hx' := hx.at I.sub
  have hy' := hy.at I.sub
  unfold dIsN at q
  split at q
  · cases hy'
    exact .inl ⟨rfl, by rw [isn_dec hx']; exact kk _ q⟩
  · split at q
    · cases hx'; cases hy'
      exact .inr ⟨_, _, rfl, rfl, kk _ q⟩
    · exact q.elim
  · exact q.elim
theorem cmd_isnot : CmD X L .IsNot rNotA dNotN := by
  refine ⟨op_notN.or op_notBl, ⟨by decide, by decide⟩, fun b F s σ H x y d e Q k I hx hy q kk => ?_⟩
  have hx' := hx.at I.sub
  have hy' := hy.at I.sub
  unfold dNotN at q
  split at q
  · cases hy'
    refine .inl ⟨rfl, ?_⟩
    rw [isn_dec hx']
    exact kk _ q
  · split at q
    · cases hx'; cases hy'
      exact .inr ⟨_, _, rfl, rfl, kk _ q⟩
    · exact q.elim
  · exact q.elim
end
end FL

/-! FL4: tests, subscripts, displays, calls. -/
namespace FL
open PySem PySem.Spec PyProof.Rows L2
section
variable {X : Cx} {L : Lw} {W : WX} {pos : Pos} {a c e : Expr} {ta tb tc te : TE} {wa wb wc we : We} {tA tB' : TT} {vA vB : Wt} {rest : List Expr}

/-! ### tests -/
def wAndT (va vb : Wt) : Wt := fun s Q R => va s (fun c => cond c (vb s Q R) (Q false)) R
def wOrT (va vb : Wt) : Wt := fun s Q R => va s (fun c => cond c (Q true) (vb s Q R)) R
def wNotT (va : Wt) : Wt := fun s Q R => va s (fun c => Q (!c)) R
theorem ft_w (h : FW X L W e tA vA) : FT X L W e tA vA := ⟨h.pe.pt, h.snd⟩
theorem fw_and1 (h : FT X L W a tA vA) : FW X L W (.BoolOp .And [a] pos) tA vA := ⟨pw_and1 h.pe, h.snd⟩
theorem fw_or1 (h : FT X L W a tA vA) : FW X L W (.BoolOp .Or [a] pos) tA vA := ⟨pw_or1 h.pe, h.snd⟩
theorem fw_and (ha : FT X L W a tA vA) (hb : FW X L W (.BoolOp .And (c :: rest) pos) tB' vB) : FW X L W (.BoolOp .And (a :: c :: rest) pos) (tAnd tA tB') (wAndT vA vB) := by
  refine ⟨pw_and ha.pe hb.pe, fun b F s σ H Q R k I h hx kk => ?_⟩
  refine ha.snd b F s σ H _ R _ I h hx fun F1 z H1 I1 m1 k1 h1 => ?_
  cases z with
  | true =>
    rw [if_pos rfl]
    exact hb.snd b F1 s σ H1 Q R k I1 h1 (hx.mono m1) fun F2 z2 H2 I2 m2 k2 q => kk F2 z2 H2 I2 (m1.trans m2) (k1.trans k2) q
  | false =>
    rw [if_neg Bool.false_ne_true]
    exact kk F1 false H1 I1 m1 k1 h1
theorem fw_or (ha : FT X L W a tA vA) (hb : FW X L W (.BoolOp .Or (c :: rest) pos) tB' vB) : FW X L W (.BoolOp .Or (a :: c :: rest) pos) (tOr tA tB') (wOrT vA vB) := by
  refine ⟨pw_or ha.pe hb.pe, fun b F s σ H Q R k I h hx kk => ?_⟩
  refine ha.snd b F s σ H _ R _ I h hx fun F1 z H1 I1 m1 k1 h1 => ?_
  cases z with
  | true =>
    rw [if_pos rfl]
    exact kk F1 true H1 I1 m1 k1 h1
  | false =>
    rw [if_neg Bool.false_ne_true]
    exact hb.snd b F1 s σ H1 Q R k I1 h1 (hx.mono m1) fun F2 z2 H2 I2 m2 k2 q => kk F2 z2 H2 I2 (m1.trans m2) (k1.trans k2) q
theorem ft_not (ha : FT X L W a tA vA) : FT X L W (.UnaryOp .Not a pos) (tNot tA) (wNotT vA) := by
  refine ⟨pt_not ha.pe, fun b F s σ H Q R k I h hx kk => ?_⟩
  exact ha.snd b F s σ H _ R _ I h hx fun F1 z H1 I1 m1 k1 h1 => kk F1 (!z) H1 I1 m1 k1 h1
/-- truth by data -/
def truOk : D → Prop
  | .str x => x.length ≤ sizeLine
  | .dict _ => False
  | _ => True
def truD : D → Bool
  | .none => false
  | .bool b => b
  | .int i => i != 0
  | .str x => (x.length : Int) != 0
  | .list xs => !xs.isEmpty
  | .tuple xs => !xs.isEmpty
  | .dict _ => false
theorem emp_len {vs : List V} {ds : List D} (h : vs.length = ds.length) : (!vs.isEmpty) = !ds.isEmpty := by
  cases vs <;> cases ds <;> first | rfl | simp at h
theorem tru_of {K : PySem.W.Frag} {H : Hp} {x : V} {d : D} (hx : Dt K H x d) (h : truOk d) : TruV K x H (truD d) := by
  cases hx with
  | non => rfl
  | bl b => rfl
  | int i => rfl
  | str x => exact ⟨h, rfl⟩
  | lst h1 h2 => exact .inl ⟨_, h1, (emp_len (dps_len h2)).symm⟩
  | tup h1 h2 => exact .inr (.inl ⟨_, h1, (emp_len (dps_len h2)).symm⟩)
def wTruT (wa : We) : Wt := fun s Q R => wa s (fun d => truOk d ∧ Q (truD d)) R
theorem ft_truth (ha : FB X L W a ta wa) (he : ∀ whole, isTrue a X.env whole = (do let v ← whole; standAt a.pos; holding [v] (truthy v)) := by intro _; rfl) : FT X L W a (fun σ H Q => ta σ H fun x H' => ∃ k, TruV X.K x H' k ∧ Q k H') (wTruT wa) := by
  refine ⟨pt_truth ha.pe he, fun b F s σ H Q R k I h hx kk => ?_⟩
  exact ha.snd b F s σ H _ R _ I h hx fun F1 d v H1 I1 m1 k1 r1 h1 => ⟨_, tru_of (r1.at I1.sub) h1.1, kk F1 _ H1 I1 m1 k1 h1.2⟩
def wNotV (wa : We) : We := fun s Q R => wa s (fun d => truOk d ∧ Q (.bool (!truD d))) R
theorem fe_not (ha : FB X L W a ta wa) : FE X L W (.UnaryOp .Not a pos) (tNotT X.K ta) (wNotV wa) := by
  refine ⟨pe_notT ha.pe, fun b F s σ H Q R k I h hx kk => ?_⟩
  exact ha.snd b F s σ H _ R _ I h hx fun F1 d v H1 I1 m1 k1 r1 h1 => ⟨_, tru_of (r1.at I1.sub) h1.1, kk F1 _ _ H1 I1 m1 k1 (.bl _) h1.2⟩
/-- and, or as values: the first by its truth -/
def wAndV (wa wb : We) : We := fun s Q R => wa s (fun d => truOk d ∧ cond (truD d) (wb s Q R) (Q d)) R
def wOrV (wa wb : We) : We := fun s Q R => wa s (fun d => truOk d ∧ cond (truD d) (Q d) (wb s Q R)) R
theorem fe_one {op : BoolOp} (ha : FE X L W a ta wa) : FE X L W (.BoolOp op [a] pos) ta wa := ⟨pe_one ha.pe, ha.snd⟩
theorem fe_andV (ha : FE X L W a ta wa) (hb : FE X L W (.BoolOp .And (c :: rest) pos) tb wb) : FE X L W (.BoolOp .And (a :: c :: rest) pos) (tAndT X.K ta tb) (wAndV wa wb) := by
  refine ⟨pe_andT ha.pe hb.pe, fun b F s σ H Q R k I h hx kk => ?_⟩
  refine ha.snd b F s σ H _ R _ I h hx fun F1 d v H1 I1 m1 k1 r1 h1 => ⟨truD d, tru_of (dp_mono I1.sub r1) h1.1, ?_⟩
  cases z : truD d with
  | true =>
    rw [if_pos rfl]
    exact hb.snd b F1 s σ H1 Q R k I1 (by have := h1.2; rw [z] at this; exact this) (hx.mono m1) fun F2 d2 v2 H2 I2 m2 k2 r2 q => kk F2 d2 v2 H2 I2 (m1.trans m2) (k1.trans k2) r2 q
  | false =>
    rw [if_neg Bool.false_ne_true]
    exact kk F1 d v H1 I1 m1 k1 r1 (by have := h1.2; rw [z] at this; exact this)
theorem fe_orV (ha : FE X L W a ta wa) (hb : FE X L W (.BoolOp .Or (c :: rest) pos) tb wb) : FE X L W (.BoolOp .Or (a :: c :: rest) pos) (tOrT X.K ta tb) (wOrV wa wb) := by
  refine ⟨pe_orT ha.pe hb.pe, fun b F s σ H Q R k I h hx kk => ?_⟩
  refine ha.snd b F s σ H _ R _ I h hx fun F1 d v H1 I1 m1 k1 r1 h1 => ⟨truD d, tru_of (dp_mono I1.sub r1) h1.1, ?_⟩
  cases z : truD d with
  | true =>
    rw [if_pos rfl]
    exact kk F1 d v H1 I1 m1 k1 r1 (by have := h1.2; rw [z] at this; exact this)
  | false =>
    rw [if_neg Bool.false_ne_true]
    exact hb.snd b F1 s σ H1 Q R k I1 (by have := h1.2; rw [z] at this; exact this) (hx.mono m1) fun F2 d2 v2 H2 I2 m2 k2 r2 q => kk F2 d2 v2 H2 I2 (m1.trans m2) (k1.trans k2) r2 q
def wIf (vt : Wt) (wa wb : We) : We := fun s Q R => vt s (fun c => cond c (wa s Q R) (wb s Q R)) R
theorem fe_if (ht : FT X L W e tA vA) (ha : FE X L W a ta wa) (hb : FE X L W c tb wb) : FE X L W (.IfExp e a c pos) (tIf tA ta tb) (wIf vA wa wb) := by
  refine ⟨pe_ifExp ht.pe ha.pe hb.pe, fun b F s σ H Q R k I h hx kk => ?_⟩
  refine ht.snd b F s σ H _ R _ I h hx fun F1 z H1 I1 m1 k1 h1 => ?_
  cases z with
  | true =>
    rw [if_pos rfl]
    exact ha.snd b F1 s σ H1 Q R k I1 h1 (hx.mono m1) fun F2 d2 v2 H2 I2 m2 k2 r2 q => kk F2 d2 v2 H2 I2 (m1.trans m2) (k1.trans k2) r2 q
  | false =>
    rw [if_neg Bool.false_ne_true]
    exact hb.snd b F1 s σ H1 Q R k I1 h1 (hx.mono m1) fun F2 d2 v2 H2 I2 m2 k2 r2 q => kk F2 d2 v2 H2 I2 (m1.trans m2) (k1.trans k2) r2 q
/-- a op1 b op2 c -/
def wChain (w w' : D → D → (Bool → Prop) → Prop) (wa wb wc : We) : Wt := fun s Q R => wa s (fun x => wb s (fun y => w x y fun c1 => cond c1 (wc s (fun z => w' y z Q) R) (Q false)) R) R
theorem snd_chain {op op' : CmpOp} {r r' : R2} {w w' : D → D → (Bool → Prop) → Prop} (o : CmD X L op r w) (o' : CmD X L op' r' w') (ha : FE X L W a ta wa) (hb : FE X L W c tb wb) (hc : FE X L W e tc wc)
    (b : Beg) (F : Hp) (s : Sl) (σ : L2.St) (H : Hp) (Q : Bool → Prop) (R : Value → Prop) (k : Bool → Hp → Prop) (I : Rel X.K L b F s σ H) (h : wChain w w' wa wb wc s Q R) (hx : Exw X.K L W b F s σ R)
    (kk : ∀ F' z H', Rel X.K L b F' s σ H' → Same F F' → Kp b H H' → Q z → k z H') : tChain r r' ta tb tc σ H fun x H' => ∃ z, x = .bl z ∧ k z H' := by
  refine ha.snd b F s σ H _ R _ I h hx fun F1 d1 v1 H1 I1 m1 k1 r1 h1 => ?_
  refine hb.snd b F1 s σ H1 _ R _ I1 h1 (hx.mono m1) fun F2 d2 v2 H2 I2 m2 k2 r2 h2 => ?_
  refine o.snd b F2 s σ H2 v1 v2 d1 d2 _ _ I2 (.inl (dp_mono m2 r1)) (.inl r2) h2 fun z q => ⟨z, rfl, ?_⟩
  cases z with
  | true =>
    rw [if_pos rfl]
    refine hc.snd b F2 s σ H2 _ R _ I2 q (hx.mono (m1.trans m2)) fun F3 d3 v3 H3 I3 m3 k3 r3 h3 => ?_
    exact o'.snd b F3 s σ H3 v2 v3 d2 d3 _ _ I3 (.inl (dp_mono m3 r2)) (.inl r3) h3 fun z q => ⟨z, rfl, kk F3 z H3 I3 (m1.trans (m2.trans m3)) (k1.trans (k2.trans k3)) q⟩
  | false =>
    rw [if_neg Bool.false_ne_true]
    exact ⟨false, rfl, kk F2 false H2 I2 (m1.trans m2) (k1.trans k2) q⟩
theorem ft_chain {op op' : CmpOp} {r r' : R2} {w w' : D → D → (Bool → Prop) → Prop} (o : CmD X L op r w) (o' : CmD X L op' r' w') (ha : FE X L W a ta wa) (hb : FE X L W c tb wb) (hc : FE X L W e tc wc)
    (hm : lastMarks [op, op'] [c, e] = false := by with_unfolding_all rfl) : FT X L W (.Compare a [op, op'] [c, e] pos) (tTest (tChain r r' ta tb tc)) (wChain w w' wa wb wc) :=
  ⟨pt_chain o.opr o'.opr ha.pe hb.pe hc.pe hm, fun b F s σ H Q R k I h hx kk => snd_chain o o' ha hb hc b F s σ H Q R k I h hx kk⟩
def wBoolV (v : Wt) : We := fun s Q R => v s (fun z => Q (.bool z)) R
theorem fe_chain {op op' : CmpOp} {r r' : R2} {w w' : D → D → (Bool → Prop) → Prop} (o : CmD X L op r w) (o' : CmD X L op' r' w') (ha : FE X L W a ta wa) (hb : FE X L W c tb wb) (hc : FE X L W e tc wc)
    (hm : lastMarks [op, op'] [c, e] = false := by with_unfolding_all rfl) : FE X L W (.Compare a [op, op'] [c, e] pos) (tChain r r' ta tb tc) (wBoolV (wChain w w' wa wb wc)) := by
  refine ⟨pe_chain o.opr o'.opr ha.pe hb.pe hc.pe hm, fun b F s σ H Q R k I h hx kk => ?_⟩
  refine ha.snd b F s σ H _ R _ I h hx fun F1 d1 v1 H1 I1 m1 k1 r1 h1 => ?_
  refine hb.snd b F1 s σ H1 _ R _ I1 h1 (hx.mono m1) fun F2 d2 v2 H2 I2 m2 k2 r2 h2 => ?_
  refine o.snd b F2 s σ H2 v1 v2 d1 d2 _ _ I2 (.inl (dp_mono m2 r1)) (.inl r2) h2 fun z q => ⟨z, rfl, ?_⟩
  cases z with
  | true =>
    rw [if_pos rfl]
    refine hc.snd b F2 s σ H2 _ R _ I2 q (hx.mono (m1.trans m2)) fun F3 d3 v3 H3 I3 m3 k3 r3 h3 => ?_
    exact o'.snd b F3 s σ H3 v2 v3 d2 d3 _ _ I3 (.inl (dp_mono m3 r2)) (.inl r3) h3 fun z q => kk F3 _ _ H3 I3 (m1.trans (m2.trans m3)) (k1.trans (k2.trans k3)) (.bl z) q
  | false =>
    rw [if_neg Bool.false_ne_true]
    exact kk F2 _ _ H2 I2 (m1.trans m2) (k1.trans k2) (.bl false) q

/-! ### a[i] -/
/-- the place of the item i -/
def wIx (wa wb : We) : We := fun s Q R => wa s (fun x => wb s (fun y => match x, y with
  | .list ds, .int i => ∃ d, atI ds i = some d ∧ Q d
  | .tuple ds, .int i => ∃ d, atI ds i = some d ∧ Q d
  | .str z, .int i => z.length ≤ sizeLine ∧ ∃ n, atI z.cps.toList i = some n ∧ Q (.str ⟨#[n]⟩)
  | _, _ => False) R) R
theorem atI_dps {K : PySem.W.Frag} {F : Hp} {vs : List V} {ds : List D} {i : Int} {d : D} (h : DtAll K F vs ds) (e : atI ds i = some d) : ∃ v, atI vs i = some v ∧ Dt K F v d := by
  unfold atI at e ⊢
  rw [dps_len h]
  cases q : ixN ds.length i with
  | none => rw [q] at e; cases e
  | some j =>
    rw [q] at e
    exact dps_get h e
theorem fe_ix (ha : FB X L W a ta wa) (hb : FE X L W c tb wb) (hs : PlainIx c := by intro _ _; rfl) : FE X L W (.Subscript a c pos) (tOp (rIx X.K) ta tb) (wIx wa wb) := by
  refine ⟨pe_ix ix_seq ha.pe hb.pe hs, fun b F s σ H Q R k I h hx kk => ?_⟩
  refine ha.snd b F s σ H _ R _ I h hx fun F1 d1 v1 H1 I1 m1 k1 r1 h1 => ?_
  refine hb.snd b F1 s σ H1 _ R _ I1 h1 (hx.mono m1) fun F2 d2 v2 H2 I2 m2 k2 r2 h2 => ?_
  have r1' := r1.keep m2 k2
  split at h2
  · cases r2
    obtain ⟨d, e1, q⟩ := h2
    rcases r1' with r1' | ⟨x, vs, ds', rfl, e2, e3, e4, e5⟩
    · cases r1' with
      | lst h3 h4 =>
        obtain ⟨v, e5, e6⟩ := atI_dps h4 e1
        exact .inl ⟨_, _, _, v, rfl, rfl, I2.sub.seq h3, e5, kk F2 d v H2 I2 (m1.trans m2) (k1.trans k2) e6 q⟩
    · cases e2
      obtain ⟨v, e6, e7⟩ := atI_dps e5 e1
      exact .inl ⟨_, _, _, v, rfl, rfl, .inl (.inl e4), e6, kk F2 d v H2 I2 (m1.trans m2) (k1.trans k2) e7 q⟩
  · cases r2
    obtain ⟨d, e1, q⟩ := h2
    rcases r1' with r1' | ⟨x, vs, ds', rfl, e2, e3, e4, e5⟩
    · cases r1' with
      | tup h3 h4 =>
        obtain ⟨v, e5, e6⟩ := atI_dps h4 e1
        exact .inr (.inl ⟨_, _, _, v, rfl, rfl, same_sqT I2.sub h3, e5, kk F2 d v H2 I2 (m1.trans m2) (k1.trans k2) e6 q⟩)
    · cases e2
  · cases r2
    obtain ⟨hl, n, e1, q⟩ := h2
    rcases r1' with r1' | ⟨x, vs, ds', rfl, e2, e3, e4, e5⟩
    · cases r1'
      exact .inr (.inr ⟨_, _, n, rfl, rfl, hl, e1, kk F2 _ _ H2 I2 (m1.trans m2) (k1.trans k2) (.str _) q⟩)
    · cases e2
  · exact h2.elim

/-! ### items from the left -/
structure FLs (X : Cx) (L : Lw) (W : WX) (es : List Expr) (t : TA) (w : Wl) : Prop where
  pe : PA X es t
  snd : ∀ (b : Beg) (F : Hp) (s : Sl) (σ : L2.St) (H : Hp) (Q : List D → Prop) (R : Value → Prop) (k : List V → Hp → Prop), Rel X.K L b F s σ H → w s Q R → Exw X.K L W b F s σ R →
    (∀ F' ds vs H', Rel X.K L b F' s σ H' → Same F F' → Kp b H H' → DtAll X.K F' vs ds → Q ds → k vs H') → t σ H k
def wNil : Wl := fun _ Q _ => Q []
def wCons (wa : We) (wr : Wl) : Wl := fun s Q R => wa s (fun x => wr s (fun xs => Q (x :: xs)) R) R
variable {es : List Expr} {t : TA} {wl : Wl}
theorem fl_nil : FLs X L W [] tNil wNil := ⟨pa_nil, fun b F s σ H Q R k I h hx kk => kk F [] [] H I (Same.refl F) Kp.refl .nil h⟩
theorem fl_cons (ha : FE X L W a ta wa) (hr : FLs X L W es t wl) (hs : starEach (a :: es) X.env = (false, eval a X.env) :: starEach es X.env := by rfl) : FLs X L W (a :: es) (tCons ta t) (wCons wa wl) := by
  refine ⟨pa_cons ha.pe hr.pe hs, fun b F s σ H Q R k I h hx kk => ?_⟩
  refine ha.snd b F s σ H _ R _ I h hx fun F1 d1 v1 H1 I1 m1 k1 r1 h1 => ?_
  exact hr.snd b F1 s σ H1 _ R _ I1 h1 (hx.mono m1) fun F2 ds vs H2 I2 m2 k2 r2 h2 => kk F2 _ _ H2 I2 (m1.trans m2) (k1.trans k2) (.cons (dp_mono m2 r1) r2) h2
def wTup (wl : Wl) : We := fun s Q R => wl s (fun ds => ds.length ≤ sizeLine ∧ Q (.tuple ds)) R
theorem fe_tup {k : Nat} (h : FLs X L W es t wl) : FE X L W (.Tuple es k pos) (tTup t) (wTup wl) := by
  refine ⟨pe_tup h.pe, fun b F s σ H Q R k I q hx kk => ?_⟩
  refine h.snd b F s σ H _ R _ I q hx fun F1 ds vs H1 I1 m1 k1 r1 h1 => ⟨by rw [dps_len r1]; exact h1.1, fun p hp => ?_⟩
  have hf := I1.f_none hp
  exact kk _ _ _ _ (I1.new1 hp (fun ps z => by cases z)) (m1.trans (same_upd hf)) (k1.trans (Kp.of (same_upd hp))) (.tup (.inl (.inl upd_same)) (dps_mono (same_upd hf) r1)) h1.2
def wLst (wl : Wl) : Wl := fun s Q R => wl s (fun ds => ds.length ≤ sizeLine ∧ Q ds) R
theorem fn_lst (h : FLs X L W es t wl) : FN X L W (.List es pos) (tLst t) (wLst wl) := by
  refine ⟨pe_lst h.pe, fun b F s σ H Q R k I q hx kk => ?_⟩
  refine h.snd b F s σ H _ R _ I q hx fun F1 ds vs H1 I1 m1 k1 r1 h1 => ⟨by rw [dps_len r1]; exact h1.1, fun p hp => ?_⟩
  exact kk F1 ds p vs _ (I1.lay hp) m1 (k1.trans (Kp.of (same_upd hp))) ⟨I1.live p hp, I1.dr_some hp, I1.f_none hp, fun i z => I1.ow_some hp i z⟩ upd_same r1 h1.2
/-- a new list as a datum -/
def wN (wl : Wl) : We := fun s Q R => wl s (fun ds => Q (.list ds)) R
theorem fe_n (h : FN X L W e te wl) : FE X L W e te (wN wl) := by
  refine ⟨h.pe, fun b F s σ H Q R k I q hx kk => ?_⟩
  refine h.snd b F s σ H _ R _ I q hx fun F1 ds p vs H1 I1 m1 k1 fr e1 r1 h1 => ?_
  exact kk _ _ _ _ (I1.tell fr.h0 fr.hd e1 fr.hf (fun ps z => by cases z) fr.hn) (m1.trans (same_upd fr.hf)) k1 (.lst (.inl (.inl upd_same)) (dps_mono (same_upd fr.hf) r1)) h1
/-- a new list, only looked at -/
theorem fb_n (h : FN X L W e te wl) : FB X L W e te (wN wl) := fb_fe (fe_n h)
end
end FL

/-! FL5: calls, defs, statements, loops. -/
namespace FL
open PySem PySem.Spec PyProof.Rows L2
section
variable {X : Cx} {L : Lw} {W : WX} {pos p : Pos} {a c e : Expr} {ta tb tc te : TE} {wa wb wc we : We} {tA tB' : TT} {vA vB : Wt} {rest es : List Expr} {t : TA} {wl : Wl} {v : Wa}

/-! ### arguments -/
theorem ArgOk.mono {K : PySem.W.Frag} {b : Beg} {F F' : Hp} {v : V} {c : Cel} (m : Same F F') (h : ArgOk K b F v c) : ArgOk K b F' v c := by
  cases c with
  | fz d => exact dp_mono m h
  | dr => exact h
  | no => exact h
  | ow ds => exact h
  | lk ds => exact h
  | px a => exact h
theorem ArgsOk.mono {K : PySem.W.Frag} {b : Beg} {F F' : Hp} (m : Same F F') : ∀ {vs : List V} {cs : List Cel}, ArgsOk K b F vs cs → ArgsOk K b F' vs cs
  | [], [], h => h
  | _ :: _, _ :: _, h => ⟨h.1.mono m, ArgsOk.mono m h.2⟩
  | [], _ :: _, h => h.elim
  | _ :: _, [], h => h.elim
theorem ArgsOk.len {K : PySem.W.Frag} {b : Beg} {F : Hp} : ∀ {vs : List V} {cs : List Cel}, ArgsOk K b F vs cs → vs.length = cs.length
  | [], [], _ => rfl
  | _ :: _, _ :: _, h => by simp [ArgsOk.len h.2]
  | [], _ :: _, h => h.elim
  | _ :: _, [], h => h.elim
def wANil : Wa := fun _ Q _ => Q []
def wACons (wa : We) (wr : Wa) : Wa := fun s Q R => wa s (fun x => wr s (fun xs => Q (.fz x :: xs)) R) R
def wADr (i : Nat) (wr : Wa) : Wa := fun s Q R => match s[i]? with
  | some .dr => wr s (fun xs => Q (.dr :: xs)) R
  | _ => False
theorem fa_nil : FA X L W [] tNil wANil := ⟨pa_nil, fun b F s σ H Q R k I h hx kk => kk F [] [] H I (Same.refl F) Kp.refl trivial h⟩
theorem fa_cons (ha : FE X L W a ta wa) (hr : FA X L W es t v) (hs : starEach (a :: es) X.env = (false, eval a X.env) :: starEach es X.env := by rfl) : FA X L W (a :: es) (tCons ta t) (wACons wa v) := by
  refine ⟨pa_cons ha.pe hr.pe hs, fun b F s σ H Q R k I h hx kk => ?_⟩
  refine ha.snd b F s σ H _ R _ I h hx fun F1 d1 v1 H1 I1 m1 k1 r1 h1 => ?_
  exact hr.snd b F1 s σ H1 _ R _ I1 h1 (hx.mono m1) fun F2 ds vs H2 I2 m2 k2 r2 h2 => kk F2 (.fz d1 :: ds) _ H2 I2 (m1.trans m2) (k1.trans k2) ⟨dp_mono m2 r1, r2⟩ h2
theorem fa_dr (i : Nat) {x : Str} (hr : FA X L W es t v) (hN : X.N[i]? = some x := by rfl) (hv : Vis X.env.scope x := by first | exact Or.inl rfl | exact Or.inr (Or.inl rfl) | exact Or.inr (Or.inr rfl)) (hd : (x == ("__debug__" : Str)) = false := by decide)
    (hcd : (x == ("__classdict__" : Str)) = false := by decide) (hs : starEach (.Name x pos :: es) X.env = (false, eval (.Name x pos) X.env) :: starEach es X.env := by rfl) : FA X L W (.Name x pos :: es) (tCons (tVar i) t) (wADr i v) := by
  refine ⟨pa_cons (pv i hN hv hd hcd) hr.pe hs, fun b F s σ H Q R k I h hx kk => ?_⟩
  unfold wADr at h
  split at h
  · rename_i e
    obtain ⟨p, e1, e2⟩ := I.slot i _ e
    have e3 : σ[i]? = some (some (.ref p)) := by
      rw [List.getD_eq_getElem?_getD] at e1
      cases q : σ[i]? with
      | none => rw [q] at e1; cases e1
      | some u => rw [q] at e1; exact congrArg some e1
    refine ⟨_, e3, ?_⟩
    exact hr.snd b F s σ H _ R _ I h hx fun F2 ds vs H2 I2 m2 k2 r2 h2 => kk F2 (.dr :: ds) _ H2 I2 m2 k2 ⟨⟨p, rfl, e2⟩, r2⟩ h2
  · exact h.elim

/-! ### a def's promise by data -/
abbrev Fs := List Cel → (D → Prop) → (Value → Prop) → Prop
def Spf (K : PySem.W.Frag) (L : Lw) (w : Fs) : Sp := fun vs H Q E => ∃ (b : Beg) (F : Hp) (cs : List Cel) (q : D → Prop) (r : Value → Prop), Grd K L b F H ∧ ArgsOk K b F vs cs ∧ w cs q r ∧
  (∀ F' v d H', Grd K L b F' H' → Same F F' → Dt K F' v d → q d → Q v H') ∧ ∀ cls F' H', Grd K L b F' H' → Same F F' → r cls → E cls none H'
section
variable {K : PySem.W.Frag} {b : Beg} {F F' : Hp} {s : Sl} {σ : L2.St} {H H' : Hp}
theorem Grd.enter (I : Grd K L b F H) : Grd K L ⟨H, F, b.dr⟩ F H :=
  ⟨I.sub, Same.refl F, fun _ _ h => .inl h, Kp.refl, fun _ h => h, I.drw, I.tab, I.ntb⟩
theorem Grd.back (I : Grd K L b F H) (g : Grd K L ⟨H, F, b.dr⟩ F' H') : Grd K L b F' H' where
  sub := g.sub
  old := I.old.trans g.old
  new := fun a o h => by
    rcases g.new a o h with h | h
    · exact I.new a o h
    · exact .inr (I.live a h)
  keep := I.keep.trans g.keep
  live := fun a h => I.live a (g.live a h)
  drw := g.drw
  tab := g.tab
  ntb := g.ntb
theorem Rel.back (I : Rel K L b F s σ H) (g : Grd K L ⟨H, F, b.dr⟩ F' H') : Rel K L b F' s σ H' :=
  { I.toGrd.back g with
    len := I.len
    slot := fun i c e => (I.slot i c e).mono g.old (fun a h1 h2 => by
      cases q : F' a with
      | none => rfl
      | some o =>
        rcases g.new a o q with h | h
        · rw [show F a = some o from h] at h1; cases h1
        · exact absurd h h2) g.keep
    apart := I.apart }
end
def wCall (w : Fs) (v : Wa) : We := fun s Q R => v s (fun cs => w cs Q R) R
theorem ArgsOk.at {K : PySem.W.Frag} {b : Beg} {F H : Hp} : ∀ {vs : List V} {cs : List Cel}, ArgsOk K b F vs cs → ArgsOk K ⟨H, F, b.dr⟩ F vs cs
  | [], [], h => trivial
  | _ :: _, c :: _, h => ⟨by cases c <;> exact h.1, ArgsOk.at h.2⟩
  | [], _ :: _, h => h.elim
  | _ :: _, [], h => h.elim
theorem fe_call {x : Str} {k : Nat} {f : Addr} {fd : FuncData} {ps : List Str} {w : Fs} (G : FnOk X.prog X.w X.K X.mg X.base (L2N.CX X.prog X.w) k f fd ps (Spf X.K L w)) (hr : Room k X.A) (tk : L2N.Takes X W) (hg : Gl X x) (hm : X.mg x = some (.ref f)) (hk : PySem.W.keepIn X.K (.ref f) = true) (hb : Binds X.K fd ps [])
    (ha : FA X L W (e :: es) t v) (hdb : (x == ("__debug__" : Str)) = false := by decide) (he : starEach (e :: es) X.env = (false, eval e X.env) :: starEach es X.env := by rfl) (hpl : (backTo pos (starEach es X.env)).any (·.1) = false := by rfl) :
    FE X L W (.Call (.Name x p) (e :: es) [] pos) (tCallS (Spf X.K L w) (fun σ cls d H => W cls d σ H) t) (wCall w v) := by
  refine ⟨pe_callS G hr hg hm hk hb (E := fun σ cls d H => W cls d σ H) (fun σ => L2N.passAt tk σ) ha.pe hdb he hpl, fun b F s σ H Q R k I h hx kk => ?_⟩
  refine ha.snd b F s σ H _ R _ I h hx fun F1 cs vs H1 I1 m1 k1 r1 h1 => ⟨⟨H1, F1, b.dr⟩, F1, cs, Q, R, I1.toGrd.enter, r1.at, h1, fun F' v d H' g m r q => ?_, fun cls F' H' g m q => ?_⟩
  · exact kk F' d v H' (I1.back g) (m1.trans m) (k1.trans g.keep) r q
  · exact hx cls F' H' (I1.back g) (m1.trans m) q

/-! ### a def's body -/
def startS (n : Nat) (cs : List Cel) : Sl := cs ++ List.replicate (n - cs.length) .no
theorem rel_start {K : PySem.W.Frag} {b : Beg} {F H : Hp} {N : List Str} {vs : List V} {cs : List Cel} (g : Grd K L b F H) (h : ArgsOk K b F vs cs) : Rel K L b F (startS N.length cs) (L2.start N vs) H := by
  have hl := h.len
  have notow : ∀ {vs : List V} {cs : List Cel}, ArgsOk K b F vs cs → ∀ (i : Nat) ds, cs[i]? ≠ some (.ow ds) := by
    intro vs cs
    induction cs generalizing vs with
    | nil => intro _ i ds z; simp at z
    | cons c cs ih =>
      intro h i ds z
      cases vs with
      | nil => exact h.elim
      | cons v vs =>
        cases i with
        | zero => simp at z; subst z; exact h.1
        | succ i => exact ih h.2 i ds (by simpa using z)
  have at_ : ∀ {vs : List V} {cs : List Cel}, ArgsOk K b F vs cs → ∀ (i : Nat) c, cs[i]? = some c → ∃ v, vs[i]? = some v ∧ ArgOk K b F v c := by
    intro vs cs
    induction cs generalizing vs with
    | nil => intro _ i c z; simp at z
    | cons c cs ih =>
      intro h i c' z
      cases vs with
      | nil => exact h.elim
      | cons v vs =>
        cases i with
        | zero => simp at z; subst z; exact ⟨v, rfl, h.1⟩
        | succ i =>
          obtain ⟨v', e, q⟩ := ih h.2 i c' (by simpa using z)
          exact ⟨v', by simpa using e, q⟩
  have noOw : ∀ (i : Nat), ¬ isOw (startS N.length cs)[i]? := fun i z => by
    unfold startS at z
    by_cases hi : i < cs.length
    · rw [List.getElem?_append_left hi] at z
      cases e : cs[i]? with
      | none => rw [e] at z; exact z
      | some c =>
        rw [e] at z
        cases c with
        | ow ds => exact notow h i ds e
        | _ => exact z
    · rw [List.getElem?_append_right (by omega), List.getElem?_replicate] at z
      split at z <;> exact z
  refine { g with len := ?_, slot := fun i c e => ?_, apart := fun i j a _ h1 => (noOw i h1).elim }
  · unfold startS L2.start
    simp [hl]
  · unfold startS at e
    by_cases hi : i < cs.length
    · rw [List.getElem?_append_left hi] at e
      obtain ⟨v, e1, q⟩ := at_ h i c e
      have e2 : (L2.start N vs).getD i none = some v := by
        unfold L2.start
        rw [List.getD_eq_getElem?_getD, List.getElem?_append_left (by simp; omega), List.getElem?_map, e1]
        rfl
      rw [e2]
      cases c with
      | no => trivial
      | fz d => exact ⟨v, rfl, q⟩
      | ow ds => exact q.elim
      | lk ds => exact q.elim
      | px a => exact congrArg some q
      | dr =>
        obtain ⟨a, e3, e4⟩ := q
        exact ⟨a, by rw [e3], e4⟩
    · rw [List.getElem?_append_right (by omega), List.getElem?_replicate] at e
      split at e
      · cases e; trivial
      · cases e
/-- a def by its body; the code object's value is told -/
theorem okC {P : Program} {w : World} {K : PySem.W.Frag} {mg : Str → Option Value} {base : Heap} {x qual : Str} {st : Stmt} {f : Addr} {fd : FuncData} {N ps : List Str} {k : Nat} {sp : Sp} (F : Fun K x qual st f fd) (S : FnScope N ps (defScope st)) (len : ∀ vs H Q E, sp vs H Q E → vs.length = ps.length)
    (hbody : ∀ (cdv : Value), fd.code = cdv → ∀ (A : Around) (outer : List Env) (s : Shared) (H : Hp) (vs : List V) (Q : VK) (E : XK), Room k (A.deeper (envOfC qual (defScope st) s.heap.objs.size f cdv)) → sp vs H Q E →
      ∃ t, PSs (cxOf (L2N.CX P w) P w K mg base N qual (defScope st) f cdv A outer s H E) (defBody st) t ∧ t { nx := fun _ H' => Q .non H', rt := Q } (L2.start N vs) H) : FnOk P w K mg base (L2N.CX P w) (k + 1) f fd ps sp := by
  obtain ⟨oc, od, kV, doc, pm, an, cdv, ct, osl, rfl, lk, hcd⟩ := F.ex
  exact fn_of lk hcd S len fun A outer s H vs Q E hr hsp => hbody cdv rfl A outer s H vs Q E hr hsp
/-- a def by its body: from the body's derivation and its reading -/
theorem fn_flat {P : Program} {w : World} {K : PySem.W.Frag} {mg : Str → Option Value} {base : Heap} {x qual : Str} {st : Stmt} {f : Addr} {fd : FuncData} {N ps : List Str} {k : Nat} {sp : Fs} (Fn : Fun K x qual st f fd) (S : FnScope N ps (defScope st)) (len : ∀ cs q r, sp cs q r → cs.length = ps.length)
    (hbody : ∀ (cdv : Value), fd.code = cdv → ∀ (A : Around) (outer : List Env) (s : Shared) (H : Hp) (E : XK), Room k (A.deeper (envOfC qual (defScope st) s.heap.objs.size f cdv)) →
      L2N.Takes (cxOf (L2N.CX P w) P w K mg base N qual (defScope st) f cdv A outer s H E) (fun cls d _ H => E cls d H) →
      PassesOwn (model P w) (cxOf (L2N.CX P w) P w K mg base N qual (defScope st) f cdv A outer s H E).A (cxOf (L2N.CX P w) P w K mg base N qual (defScope st) f cdv A outer s H E).env (cxOf (L2N.CX P w) P w K mg base N qual (defScope st) f cdv A outer s H E).xe →
      ∃ t ws, FSs (cxOf (L2N.CX P w) P w K mg base N qual (defScope st) f cdv A outer s H E) L (fun cls d _ H => E cls d H) (defBody st) t ws ∧ ∀ cs q r, sp cs q r → ws (startS N.length cs) { nx := fun _ => q .none, rt := q, ex := r }) :
    FnOk P w K mg base (L2N.CX P w) (k + 1) f fd ps (Spf K L sp) := by
  refine okC Fn S (fun vs H Q E h => ?_) (fun cdv hcd A outer s H vs Q E hr h => ?_)
  · obtain ⟨b, F, cs, q, r, g, ha, hw, _⟩ := h
    rw [ha.len]
    exact len cs q r hw
  · obtain ⟨t, ws, hd, hq⟩ := hbody cdv hcd A outer s H E hr (L2N.takes_of rfl rfl rfl rfl) (passes_of rfl)
    refine ⟨t, hd.pe, ?_⟩
    obtain ⟨b, F, cs, q, r, g, ha, hw, h1, h2⟩ := h
    refine hd.snd b F _ _ H { nx := fun _ => q .none, rt := q, ex := r } _ (rel_start g ha) (hq cs q r hw) ⟨fun F' s' σ' H' I m z => ?_, fun F' s' σ' H' v d I m r z => ?_, fun F' s' σ' H' I m z => z.elim, fun F' s' σ' H' I m z => z.elim, fun cls F' s' σ' H' I m z => ?_, fun F' s' σ' H' p vs ds I m fr e r z => z.elim⟩
    · exact h1 F' .non .none H' I.toGrd m .non z
    · exact h1 F' v d H' I.toGrd m r z
    · exact h2 cls F' H' I.toGrd m z
/-- a def that hands out a new list, nobody's so far -/
abbrev Fn := List Cel → (List D → Prop) → (Value → Prop) → Prop
def SpfN (K : PySem.W.Frag) (L : Lw) (w : Fn) : Sp := fun vs H Q E => ∃ (b : Beg) (F : Hp) (cs : List Cel) (q : List D → Prop) (r : Value → Prop), Grd K L b F H ∧ ArgsOk K b F vs cs ∧ w cs q r ∧
  (∀ F' p us ds H', Grd K L b F' H' → Same F F' → F' p = none → b.H0 p = none → b.dr ≠ some p → H' p = some (.lst us) → DtAll K F' us ds → q ds → Q (.ref p) H') ∧ ∀ cls F' H', Grd K L b F' H' → Same F F' → r cls → E cls none H'
theorem fn_flatN {P : Program} {w : World} {K : PySem.W.Frag} {mg : Str → Option Value} {base : Heap} {x qual : Str} {st : Stmt} {f : Addr} {fd : FuncData} {N ps : List Str} {k : Nat} {sp : Fn} (Fn : Fun K x qual st f fd) (S : FnScope N ps (defScope st)) (len : ∀ cs q r, sp cs q r → cs.length = ps.length)
    (hbody : ∀ (cdv : Value), fd.code = cdv → ∀ (A : Around) (outer : List Env) (s : Shared) (H : Hp) (E : XK), Room k (A.deeper (envOfC qual (defScope st) s.heap.objs.size f cdv)) →
      L2N.Takes (cxOf (L2N.CX P w) P w K mg base N qual (defScope st) f cdv A outer s H E) (fun cls d _ H => E cls d H) →
      PassesOwn (model P w) (cxOf (L2N.CX P w) P w K mg base N qual (defScope st) f cdv A outer s H E).A (cxOf (L2N.CX P w) P w K mg base N qual (defScope st) f cdv A outer s H E).env (cxOf (L2N.CX P w) P w K mg base N qual (defScope st) f cdv A outer s H E).xe →
      ∃ t ws, FSs (cxOf (L2N.CX P w) P w K mg base N qual (defScope st) f cdv A outer s H E) L (fun cls d _ H => E cls d H) (defBody st) t ws ∧ ∀ cs q r, sp cs q r → ws (startS N.length cs) { nx := fun _ => False, rt := fun _ => False, ex := r, rn := q }) :
    FnOk P w K mg base (L2N.CX P w) (k + 1) f fd ps (SpfN K L sp) := by
  refine okC Fn S (fun vs H Q E h => ?_) (fun cdv hcd A outer s H vs Q E hr h => ?_)
  · obtain ⟨b, F, cs, q, r, g, ha, hw, _⟩ := h
    rw [ha.len]
    exact len cs q r hw
  · obtain ⟨t, ws, hd, hq⟩ := hbody cdv hcd A outer s H E hr (L2N.takes_of rfl rfl rfl rfl) (passes_of rfl)
    refine ⟨t, hd.pe, ?_⟩
    obtain ⟨b, F, cs, q, r, g, ha, hw, h1, h2⟩ := h
    refine hd.snd b F _ _ H { nx := fun _ => False, rt := fun _ => False, ex := r, rn := q } _ (rel_start g ha) (hq cs q r hw) ⟨fun F' s' σ' H' I m z => z.elim, fun F' s' σ' H' v d I m r z => z.elim, fun F' s' σ' H' I m z => z.elim, fun F' s' σ' H' I m z => z.elim, fun cls F' s' σ' H' I m z => ?_, fun F' s' σ' H' p vs ds I m fr e r z => ?_⟩
    · exact h2 cls F' H' I.toGrd m z
    · exact h1 F' p vs ds H' I.toGrd m fr.hf fr.h0 fr.hd e r z
def wCallN (w : FL.Fn) (v : Wa) : Wl := fun s Q R => v s (fun cs => w cs Q R) R
theorem fn_call {x : Str} {k : Nat} {f : Addr} {fd : FuncData} {ps : List Str} {w : FL.Fn} (G : FnOk X.prog X.w X.K X.mg X.base (L2N.CX X.prog X.w) k f fd ps (SpfN X.K L w)) (hr : Room k X.A) (tk : L2N.Takes X W) (hg : Gl X x) (hm : X.mg x = some (.ref f)) (hk : PySem.W.keepIn X.K (.ref f) = true) (hb : Binds X.K fd ps [])
    (ha : FA X L W (e :: es) t v) (hdb : (x == ("__debug__" : Str)) = false := by decide) (he : starEach (e :: es) X.env = (false, eval e X.env) :: starEach es X.env := by rfl) (hpl : (backTo pos (starEach es X.env)).any (·.1) = false := by rfl) :
    FN X L W (.Call (.Name x p) (e :: es) [] pos) (tCallS (SpfN X.K L w) (fun σ cls d H => W cls d σ H) t) (wCallN w v) := by
  refine ⟨pe_callS G hr hg hm hk hb (E := fun σ cls d H => W cls d σ H) (fun σ => L2N.passAt tk σ) ha.pe hdb he hpl, fun b F s σ H Q R k I h hx kk => ?_⟩
  refine ha.snd b F s σ H _ R _ I h hx fun F1 cs vs H1 I1 m1 k1 r1 h1 => ⟨⟨H1, F1, b.dr⟩, F1, cs, Q, R, I1.toGrd.enter, r1.at, h1, fun F' p us ds H' g m hf h0 hd e r q => ?_, fun cls F' H' g m q => ?_⟩
  · have I2 := I1.back g
    exact kk F' ds p us H' I2 (m1.trans m) (k1.trans g.keep) ⟨I1.live p h0, hd, hf, fun i z => I1.ow_some h0 i z⟩ e r q
  · exact hx cls F' H' (I1.back g) (m1.trans m) q
end
end FL

/-! FL6: statements, loops. -/
namespace FL
open PySem PySem.Spec PyProof.Rows L2
section
variable {X : Cx} {L : Lw} {W : WX} {pos p : Pos} {a c e : Expr} {ta tb tc te : TE} {wa wb wc we : We} {tA tB' : TT} {vA vB : Wt} {wl : Wl} {st : Stmt} {sts sts2 : List Stmt} {t t' : TS} {w w' : Ws}
theorem EnOk.mono {K : PySem.W.Frag} {b : Beg} {F F' : Hp} {E : En} {D' : Ends} (x : EnOk K L W b F E D') (m : Same F F') : EnOk K L W b F' E D' :=
  ⟨fun F1 s' σ' H' I m1 z => x.nx F1 s' σ' H' I (m.trans m1) z, fun F1 s' σ' H' v d I m1 r z => x.rt F1 s' σ' H' v d I (m.trans m1) r z, fun F1 s' σ' H' I m1 z => x.bk F1 s' σ' H' I (m.trans m1) z,
    fun F1 s' σ' H' I m1 z => x.ct F1 s' σ' H' I (m.trans m1) z, fun cls F1 s' σ' H' I m1 z => x.ex cls F1 s' σ' H' I (m.trans m1) z, fun F1 s' σ' H' p vs ds I m1 fr e r z => x.rn F1 s' σ' H' p vs ds I (m.trans m1) fr e r z⟩
theorem EnOk.exw {K : PySem.W.Frag} {b : Beg} {F : Hp} {E : En} {D' : Ends} (x : EnOk K L W b F E D') {s : Sl} {σ : L2.St} : Exw K L W b F s σ E.ex := fun cls F' H' I m q => x.ex cls F' s σ H' I m q
/-! ### blocks -/
def wNext : Ws := fun s E => E.nx s
def wSeq (w w' : Ws) : Ws := fun s E => w s { E with nx := fun s' => w' s' E }
theorem fss_nil : FSs X L W [] tNext wNext := ⟨pss_nil, fun b F s σ H E D' I h ok => ok.nx F s σ H I (Same.refl F) h⟩
theorem fss_cons (h1 : FS X L W st t w) (h2 : FSs X L W sts t' w') : FSs X L W (st :: sts) (tSeq t t') (wSeq w w') := by
  refine ⟨pss_cons h1.pe h2.pe, fun b F s σ H E D' I h ok => ?_⟩
  exact h1.snd b F s σ H { E with nx := fun s' => w' s' E } { D' with nx := t' D' } I h
    ⟨fun F1 s' σ' H' I1 m1 z => h2.snd b F1 s' σ' H' E D' I1 z (ok.mono m1), ok.rt, ok.bk, ok.ct, ok.ex, ok.rn⟩
theorem fss_one (h1 : FS X L W st t w) : FSs X L W [st] t w := ⟨pss_one h1.pe, h1.snd⟩
theorem fs_pass : FS X L W (.Pass pos) tNext wNext := ⟨ps_pass, fun b F s σ H E D' I h ok => ok.nx F s σ H I (Same.refl F) h⟩
theorem fs_break : FS X L W (.Break pos) tBreak (fun s E => E.bk s) := ⟨ps_break, fun b F s σ H E D' I h ok => ok.bk F s σ H I (Same.refl F) h⟩
theorem fs_continue : FS X L W (.Continue pos) tCont (fun s E => E.ct s) := ⟨ps_continue, fun b F s σ H E D' I h ok => ok.ct F s σ H I (Same.refl F) h⟩
def wDrop (wa : We) : Ws := fun s E => wa s (fun _ => E.nx s) E.ex
theorem fs_expr (ha : FE X L W a ta wa) (hs : swapsWith a none pos.line X.env = pure false := by rfl) : FS X L W (.Expr a pos) (tDrop ta) (wDrop wa) :=
  ⟨ps_expr ha.pe hs, fun b F s σ H E D' I h ok => ha.snd b F s σ H _ E.ex _ I h ok.exw fun F1 d v H1 I1 m1 k1 r1 q => ok.nx F1 s σ H1 I1 m1 q⟩
def wRet (wa : We) : Ws := fun s E => wa s E.rt E.ex
theorem fs_ret (ha : FE X L W a ta wa) : FS X L W (.Return (some a) pos) (tRet ta) (wRet wa) :=
  ⟨ps_ret ha.pe, fun b F s σ H E D' I h ok => ha.snd b F s σ H _ E.ex _ I h ok.exw fun F1 d v H1 I1 m1 k1 r1 q => ok.rt F1 s σ H1 v d I1 m1 r1 q⟩
theorem fs_retN : FS X L W (.Return none pos) tRetN (fun s E => E.rt .none) := ⟨ps_retN, fun b F s σ H E D' I h ok => ok.rt F s σ H .non .none I (Same.refl F) .non h⟩
/-- a new list handed out as nobody's -/
def wRetO (wl : Wl) : Ws := fun s E => wl s E.rn E.ex
theorem fs_retO (ha : FN X L W a ta wl) : FS X L W (.Return (some a) pos) (tRet ta) (wRetO wl) :=
  ⟨ps_ret ha.pe, fun b F s σ H E D' I h ok => ha.snd b F s σ H _ E.ex _ I h ok.exw fun F1 ds p vs H1 I1 m1 k1 fr e1 r1 q => ok.rn F1 s σ H1 p vs ds I1 m1 fr e1 r1 q⟩
def wIfS (v : Wt) (w w' : Ws) : Ws := fun s E => v s (fun c => cond c (w s E) (w' s E)) E.ex
theorem fs_if (ht : FT X L W e tA vA) (ha : FSs X L W sts t w) (hb : FSs X L W sts2 t' w') : FS X L W (.If e sts sts2 pos) (tIfS tA t t') (wIfS vA w w') := by
  refine ⟨ps_if ht.pe ha.pe hb.pe, fun b F s σ H E D' I h ok => ?_⟩
  refine ht.snd b F s σ H _ E.ex _ I h ok.exw fun F1 z H1 I1 m1 k1 h1 => ?_
  cases z with
  | true => rw [if_pos rfl]; exact ha.snd b F1 s σ H1 E D' I1 h1 (ok.mono m1)
  | false => rw [if_neg Bool.false_ne_true]; exact hb.snd b F1 s σ H1 E D' I1 h1 (ok.mono m1)
/-- ahead of a statement: the list of slot i is no longer to grow -/
def Sl.fix (s : Sl) (i : Nat) : Sl := match s[i]? with
  | some (.ow ds) => s.set i (.fz (.list ds))
  | _ => s
theorem Rel.fix {K : PySem.W.Frag} {b : Beg} {F : Hp} {s : Sl} {σ : L2.St} {H : Hp} (I : Rel K L b F s σ H) (i : Nat) : ∃ F', Rel K L b F' (s.fix i) σ H ∧ Same F F' := by
  unfold Sl.fix
  split
  · rename_i ds e
    obtain ⟨p, vs, e1, h0, hd, hf, hh, hs⟩ := I.slot i _ e
    have hi : i < σ.length := by rw [I.len]; exact (List.getElem?_eq_some_iff.mp e).1
    have e2 : σ[i]? = some (some (.ref p)) := by
      rw [List.getD_eq_getElem?_getD, List.getElem?_eq_getElem hi] at e1
      rw [List.getElem?_eq_getElem hi]
      exact congrArg some e1
    -- forget it, tell it, put it back
    have I1 : Rel K L b F (s.set i .no) (σ.set i (some (.ref p))) H := I.drop1
    have I2 : Rel K L b (upd F p (.lst vs)) (s.set i .no) (σ.set i (some (.ref p))) H := I1.tell h0 hd hh hf (fun ps z => by cases z) fun j z q => by
      have nj : j ≠ i := fun y => by
        subst y; rw [List.getElem?_set] at z
        split at z
        · split at z <;> exact z
        · rename_i y; exact absurd rfl y
      rw [List.getElem?_set_ne (Ne.symm nj)] at z q
      exact I.apart i j p (Ne.symm nj) (by rw [e]; trivial) z e2 q
    have I3 := I2.put (i := i) (v := .ref p) (d := .list ds) (.lst (.inl (.inl upd_same)) (dps_mono (same_upd hf) hs))
    rw [List.set_set, List.set_set] at I3
    have e3 : σ.set i (some (.ref p)) = σ := by
      apply List.ext_getElem?
      intro j
      by_cases q : j = i
      · subst q; rw [List.getElem?_set, if_pos rfl, if_pos hi, e2]
      · rw [List.getElem?_set_ne (Ne.symm q)]
    rw [e3] at I3
    exact ⟨_, I3, same_upd hf⟩
  · exact ⟨F, I, Same.refl F⟩
theorem fs_fix (i : Nat) (h : FS X L W st t w) : FS X L W st t (fun s E => w (s.fix i) E) := by
  refine ⟨h.pe, fun b F s σ H E D' I q ok => ?_⟩
  obtain ⟨F', I', m⟩ := I.fix i
  exact h.snd b F' _ σ H E D' I' q (ok.mono m)
/-! ### stores -/
def wgName (i : Nat) : Wg := fun d s Q => Q (s.set i (.fz d))
theorem snd_gname {K : PySem.W.Frag} (i : Nat) : SndG K L (gName i) (wgName i) := fun b F s σ H v d Q k I r h kk => kk F _ _ H (I.put r) (Same.refl F) h
theorem fg_name {i : Nat} {x : Str} (hN : X.N.Nodup) (hi : X.N[i]? = some x := by rfl) (hx : Loc X.env.scope x := by first | exact Or.inl rfl | exact Or.inr rfl) (hf : X.fn x = true ∨ X.env.scope.names.lookup x = some .local := by first | exact .inl rfl | exact .inr rfl | assumption) : FG X L (.Name x pos) (gName i) (wgName i) :=
  ⟨pg_name hN hi hx hf, snd_gname i⟩
def wgNil : List D → Sl → (Sl → Prop) → Prop := fun ds s Q => ds = [] ∧ Q s
def wgCons (g : Wg) (gs : List D → Sl → (Sl → Prop) → Prop) : List D → Sl → (Sl → Prop) → Prop := fun ds s Q => match ds with
  | d :: ds => g d s (fun s' => gs ds s' Q)
  | [] => False
variable {tg : Expr} {tgs : List Expr} {g : TG} {gs : TGs} {wg : Wg} {wgs : List D → Sl → (Sl → Prop) → Prop}
theorem fgs_nil : FGs X L [] gNil wgNil := ⟨pgs_nil, fun b F s σ H vs ds Q k I r h kk => by
  obtain ⟨rfl, h⟩ := h
  cases r
  exact ⟨rfl, kk F s σ H I (Same.refl F) h⟩⟩
theorem fgs_cons (h1 : FG X L tg g wg) (h2 : FGs X L tgs gs wgs) (he : (assignEach (tg :: tgs) X.env).map (·.2) = assign tg X.env :: (assignEach tgs X.env).map (·.2) := by rfl) : FGs X L (tg :: tgs) (gCons g gs) (wgCons wg wgs) := by
  refine ⟨pgs_cons h1.pe h2.pe he, fun b F s σ H vs ds Q k I r h kk => ?_⟩
  cases r with
  | nil => exact h.elim
  | cons r1 r2 => exact ⟨_, _, rfl, h1.snd b F s σ H _ _ _ _ I r1 h fun F1 s1 σ1 H1 I1 m1 q => h2.snd b F1 s1 σ1 H1 _ _ _ _ I1 (dps_mono m1 r2) q fun F2 s2 σ2 H2 I2 m2 q2 => kk F2 s2 σ2 H2 I2 (m1.trans m2) q2⟩
def wgTup (n : Nat) (wgs : List D → Sl → (Sl → Prop) → Prop) : Wg := fun d s Q => match d with
  | .tuple ds => ds.length = n ∧ wgs ds s Q
  | _ => False
theorem fg_tup {k n : Nat} (hc : X.calm = true) (h : FGs X L tgs gs wgs) (hn : (assignEach tgs X.env).length = n := by rfl) (hst : (assignEach tgs X.env).findIdx? (·.1) = none := by rfl) : FG X L (.Tuple tgs k pos) (gTup X.K n gs) (wgTup n wgs) := by
  refine ⟨pg_tup hc h.pe hn hst, fun b F s σ H v d Q k I r q kk => ?_⟩
  unfold wgTup at q
  split at q
  · cases r with
    | tup h1 h2 => exact ⟨_, _, rfl, same_sqT I.sub h1, by rw [dps_len h2]; exact q.1, h.snd b F s σ H _ _ _ _ I h2 q.2 kk⟩
  · exact q.elim
def wAsg (wa : We) (g : Wg) : Ws := fun s E => wa s (fun d => g d s E.nx) E.ex
theorem fs_asg (ha : FE X L W a ta wa) (hg : FG X L tg g wg) (hs : swapsWithSole [tg] a pos.line X.env = pure false := by rfl) (hw : swappedStores [tg] a X.env = pure none := by rfl) (h1 : (assignEach [tg] X.env).map (·.2) = [assign tg X.env] := by rfl) : FS X L W (.Assign [tg] a pos) (tAsg ta g) (wAsg wa wg) := by
  refine ⟨ps_asg ha.pe hg.pe hs hw h1, fun b F s σ H E D' I h ok => ?_⟩
  refine ha.snd b F s σ H _ E.ex _ I h ok.exw fun F1 d v H1 I1 m1 k1 r1 q => ?_
  exact hg.snd b F1 s σ H1 v d _ _ I1 r1 q fun F2 s2 σ2 H2 I2 m2 z => ok.nx F2 s2 σ2 H2 I2 (m1.trans m2) z
theorem fs_set {i : Nat} {x : Str} (hN : X.N.Nodup) (ha : FE X L W a ta wa) (hi : X.N[i]? = some x := by rfl) (hx : Loc X.env.scope x := by first | exact Or.inl rfl | exact Or.inr rfl) (hs : swapsWith a (some (.Name x p)) pos.line X.env = pure false := by rfl) (hf : X.fn x = true ∨ X.env.scope.names.lookup x = some .local := by first | exact .inl rfl | exact .inr rfl | assumption) :
    FS X L W (.Assign [.Name x p] a pos) (tAsg ta (gName i)) (wAsg wa (wgName i)) := by
  refine ⟨ps_set hN hi hx ha.pe hs hf, fun b F s σ H E D' I h ok => ?_⟩
  exact ha.snd b F s σ H _ E.ex _ I h ok.exw fun F1 d v H1 I1 m1 k1 r1 q => ok.nx F1 _ _ H1 (I1.put r1) m1 q
/-- a list of the def's own -/
def wSetO (i : Nat) (wl : Wl) : Ws := fun s E => wl s (fun ds => E.nx (s.set i (.ow ds))) E.ex
theorem fs_own {i : Nat} {x : Str} (hN : X.N.Nodup) (ha : FN X L W a ta wl) (hi : X.N[i]? = some x := by rfl) (hx : Loc X.env.scope x := by first | exact Or.inl rfl | exact Or.inr rfl) (hs : swapsWith a (some (.Name x p)) pos.line X.env = pure false := by rfl) (hf : X.fn x = true ∨ X.env.scope.names.lookup x = some .local := by first | exact .inl rfl | exact .inr rfl | assumption) :
    FS X L W (.Assign [.Name x p] a pos) (tAsg ta (gName i)) (wSetO i wl) := by
  refine ⟨ps_set hN hi hx ha.pe hs hf, fun b F s σ H E D' I h ok => ?_⟩
  exact ha.snd b F s σ H _ E.ex _ I h ok.exw fun F1 ds q vs H1 I1 m1 k1 fr e1 r1 z => ok.nx F1 _ _ H1 (I1.putO fr.h0 fr.hd fr.hf fr.hn e1 r1) m1 z
def wPar (i j : Nat) (wl : Wl) : Ws := fun s E => wl s (fun ds => match ds with
  | [d, e] => E.nx ((s.set i (.fz d)).set j (.fz e))
  | _ => False) E.ex
theorem fs_par {i j : Nat} {x y : Str} {px py pt pt2 : Pos} {kt k2 : Nat} {t : TA} (hc : X.calm = true) (hN : X.N.Nodup) (ha : FLs X L W [a, c] t wl) (hi : X.N[i]? = some x := by rfl) (hj : X.N[j]? = some y := by rfl) (hij : i ≠ j := by decide)
    (hx : X.env.scope.names.lookup x = some .local := by rfl) (hy : X.env.scope.names.lookup y = some .local := by rfl)
    (hw : swappedStores [.Tuple [.Name x px, .Name y py] kt pt] (.Tuple [a, c] k2 pt2) X.env = pure (some [x, y]) := by rfl)
    (hs : swapsWithSole [.Tuple [.Name x px, .Name y py] kt pt] (.Tuple [a, c] k2 pt2) pos.line X.env = pure false := by rfl) :
    FS X L W (.Assign [.Tuple [.Name x px, .Name y py] kt pt] (.Tuple [a, c] k2 pt2) pos) (tPar i j t) (wPar i j wl) := by
  refine ⟨ps_par hc hN hi hj hij hx hy ha.pe hw hs, fun b F s σ H E D' I h ok => ?_⟩
  refine ha.snd b F s σ H _ E.ex _ I h ok.exw fun F1 ds vs H1 I1 m1 k1 r1 q => ?_
  split at q
  · cases r1 with
    | cons h1 h2 =>
      cases h2 with
      | cons h2 h3 =>
        cases h3
        exact ⟨_, _, rfl, ok.nx F1 _ _ H1 ((I1.put h1).put h2) m1 q⟩
  · exact q.elim
def wPar3 (i j l : Nat) (wl : Wl) : Ws := fun s E => wl s (fun ds => match ds with
  | [d, e, f] => E.nx (((s.set i (.fz d)).set j (.fz e)).set l (.fz f))
  | _ => False) E.ex
theorem fs_par3 {i j l : Nat} {x y z : Str} {px py pz pt pt2 : Pos} {kt k2 : Nat} {t : TA} (hc : X.calm = true) (hN : X.N.Nodup) (ha : FLs X L W [a, c, e] t wl) (hi : X.N[i]? = some x := by rfl) (hj : X.N[j]? = some y := by rfl) (hl : X.N[l]? = some z := by rfl) (hij : i ≠ j := by decide) (hil : i ≠ l := by decide) (hjl : j ≠ l := by decide)
    (hx : X.env.scope.names.lookup x = some .local := by rfl) (hy : X.env.scope.names.lookup y = some .local := by rfl) (hz : X.env.scope.names.lookup z = some .local := by rfl)
    (hw : swappedStores [.Tuple [.Name x px, .Name y py, .Name z pz] kt pt] (.Tuple [a, c, e] k2 pt2) X.env = pure (some [x, y, z]) := by rfl)
    (hs : swapsWithSole [.Tuple [.Name x px, .Name y py, .Name z pz] kt pt] (.Tuple [a, c, e] k2 pt2) pos.line X.env = pure false := by rfl) :
    FS X L W (.Assign [.Tuple [.Name x px, .Name y py, .Name z pz] kt pt] (.Tuple [a, c, e] k2 pt2) pos) (tPar3 i j l t) (wPar3 i j l wl) := by
  refine ⟨ps_par3 hc hN hi hj hl hij hil hjl hx hy hz ha.pe hw hs, fun b F s σ H E D' I h ok => ?_⟩
  refine ha.snd b F s σ H _ E.ex _ I h ok.exw fun F1 ds vs H1 I1 m1 k1 r1 q => ?_
  split at q
  · cases r1 with
    | cons h1 h2 =>
      cases h2 with
      | cons h2 h3 =>
        cases h3 with
        | cons h3 h4 =>
          cases h4
          exact ⟨_, _, _, rfl, ok.nx F1 _ _ H1 (((I1.put h1).put h2).put h3) m1 q⟩
  · exact q.elim
/-- x op= e, ints -/
def wAug (i : Nat) (C : Int → Int → Prop) (f : Int → Int → Int) (wa : We) : Ws := fun s E => match s[i]? with
  | some (.fz (.int n)) => wa s (fun d => match d with
    | .int m => C n m ∧ E.nx (s.set i (.fz (.int (f n m))))
    | _ => False) E.ex
  | _ => False
theorem fs_aug {i : Nat} {x : Str} {op : Operator} {C : Int → Int → Prop} {f : Int → Int → Int} (ho : OpR X (inplaceOp op) (rI C fun i j => .int (f i j))) (hN : X.N.Nodup) (ha : FE X L W a ta wa) (hi : X.N[i]? = some x := by rfl) (hx : Loc X.env.scope x := by first | exact Or.inl rfl | exact Or.inr rfl)
    (hf : X.fn x = true ∨ X.env.scope.names.lookup x = some .local := by first | exact .inl rfl | exact .inr rfl | assumption) : FS X L W (.AugAssign (.Name x p) op a pos) (tAug i ta (rI C fun i j => .int (f i j))) (wAug i C f wa) := by
  refine ⟨ps_aug hN hi hx ha.pe ho hf, fun b F s σ H E D' I h ok => ?_⟩
  unfold wAug at h
  split at h
  · rename_i n e
    obtain ⟨v, e1, r⟩ := I.slot i _ e
    cases r
    have e2 : σ[i]? = some (some (.int n)) := by
      rw [List.getD_eq_getElem?_getD] at e1
      cases q : σ[i]? with
      | none => rw [q] at e1; cases e1
      | some u => rw [q] at e1; exact congrArg some e1
    refine ⟨_, e2, ha.snd b F s σ H _ E.ex _ I h ok.exw fun F1 d v H1 I1 m1 k1 r1 q => ?_⟩
    split at q
    · cases r1
      exact ⟨_, _, rfl, rfl, q.1, ok.nx F1 _ _ H1 (I1.put (.int _)) m1 q.2⟩
    · exact q.elim
  · exact h.elim
theorem aug_add : OpR X (inplaceOp .Add) (rI (fun _ _ => True) fun i j => .int (i + j)) := opI fun _ _ _ _ _ _ _ _ q => iadd_int q
theorem aug_sub : OpR X (inplaceOp .Sub) (rI (fun _ _ => True) fun i j => .int (i - j)) := opI fun _ _ _ _ _ _ _ _ q => isub_int q
theorem aug_mul : OpR X (inplaceOp .Mult) (rI MulOk fun i j => .int (i * j)) := opI fun _ _ _ _ _ _ _ hc q => imul_int q hc
/-! ### loops -/
/-- a for over ds: what holds ahead of each turn is yours -/
def wForL (g : Wg) (w : Ws) (ds : List D) : Ws := fun s E => ∃ I : Nat → Sl → Prop, I 0 s ∧ (∀ i d s', ds[i]? = some d → I i s' → g d s' (fun s1 => w s1 { E with nx := I (i + 1), ct := I (i + 1), bk := E.nx })) ∧ ∀ s', I ds.length s' → E.nx s'
def wFor (wi : Wl) (g : Wg) (w : Ws) : Ws := fun s E => wi s (fun ds => wForL g w ds s E) E.ex
/-- .. turn by turn -/
def wForR (g : Wg) (w : Ws) : List D → Ws
  | [], s, E => E.nx s
  | d :: ds, s, E => g d s (fun s1 => w s1 { E with nx := fun s2 => wForR g w ds s2 E, ct := fun s2 => wForR g w ds s2 E, bk := E.nx })
theorem for_turns {g : Wg} {w : Ws} {ds : List D} {s : Sl} {E : En} (h : wForR g w ds s E) : wForL g w ds s E := by
  refine ⟨fun i s' => wForR g w (ds.drop i) s' E, by dsimp only; rw [List.drop_zero]; exact h, fun i d s' e q => ?_, fun s' q => by dsimp only at q; rw [List.drop_length] at q; exact q⟩
  have hlt : i < ds.length := (List.getElem?_eq_some_iff.mp e).1
  have e2 : ds.drop i = d :: ds.drop (i + 1) := by
    rw [List.getElem?_eq_getElem hlt] at e
    rw [← Option.some.inj e]
    exact List.drop_eq_getElem_cons hlt
  dsimp only at q
  rw [e2] at q
  exact q
variable {ti : TI} {wi : Wl}
theorem fs_for (po : PassesOwn (model X.prog X.w) X.A X.env X.xe) (hc : X.calm = true) (hi : FI X L W tg e ti wi) (hg : FG X L tg g wg) (hb : FSs X L W sts t w) (hs : ∀ x, foldedSetIterable e X.env x = pure x := by intro _; rfl) :
    FS X L W (.For tg e sts [] pos) (tFor ti g t) (wFor wi wg w) := by
  refine ⟨ps_for po hc hi.pe hg.pe hb.pe hs, fun b F s σ H E D' I h ok => ?_⟩
  refine hi.snd b F s σ H _ E.ex _ I h ok.exw fun F0 ds J H0 I0 m0 k0 wk hq => ?_
  obtain ⟨Iv, iv0, ivs, ive⟩ := hq
  refine ⟨fun i m σ H => m = ds.length - i ∧ i ≤ ds.length ∧ ∃ F1 s1, Rel X.K L b F1 s1 σ H ∧ Same F0 F1 ∧ Iv i s1, ⟨ds.length, by omega, by omega, F0, s, I0, Same.refl F0, iv0⟩, ?_⟩
  rintro i m σ1 H1 ⟨rfl, hi', F1, s1, I1, m1, q⟩
  obtain ⟨hgo, hstop, hy⟩ := wk b F1 s1 σ1 H1 I1 m1 trivial
  by_cases hlt : i < ds.length
  · refine .inr ⟨hgo i hlt, fun σ' H' => ∃ F2 s2, Rel X.K L b F2 s2 σ' H' ∧ Same F0 F2 ∧ Iv (i + 1) s2, fun σ' H' z => ⟨ds.length - (i + 1), by omega, rfl, by omega, z⟩, fun x H' y => ?_⟩
    obtain ⟨F2, d, e1, I2, m2, k2, r2⟩ := hy i x H' hlt y
    refine hg.snd b F2 s1 σ1 H' x d _ _ I2 r2 (ivs i d s1 e1 q) fun F3 s3 σ3 H3 I3 m3 q3 => ?_
    have mm := m0.trans (m1.trans (m2.trans m3))
    refine hb.snd b F3 s3 σ3 H3 _ _ I3 q3 ⟨fun F4 s4 σ4 H4 I4 m4 z => ⟨F4, s4, I4, m1.trans (m2.trans (m3.trans m4)), z⟩, fun F4 s4 σ4 H4 v d I4 m4 r z => ok.rt F4 s4 σ4 H4 v d I4 (mm.trans m4) r z,
      fun F4 s4 σ4 H4 I4 m4 z => ok.nx F4 s4 σ4 H4 I4 (mm.trans m4) z, fun F4 s4 σ4 H4 I4 m4 z => ⟨F4, s4, I4, m1.trans (m2.trans (m3.trans m4)), z⟩,
      fun cls F4 s4 σ4 H4 I4 m4 z => ok.ex cls F4 s4 σ4 H4 I4 (mm.trans m4) z, fun F4 s4 σ4 H4 p vs ds I4 m4 fr e r z => ok.rn F4 s4 σ4 H4 p vs ds I4 (mm.trans m4) fr e r z⟩
  · have e : i = ds.length := by omega
    subst e
    exact .inl ⟨hstop, ok.nx F1 s1 σ1 H1 I1 (m0.trans m1) (ive s1 q)⟩
/-- a while: what holds ahead of each turn, by a number that falls -/
def wWhile (v : Wt) (w : Ws) : Ws := fun s E => ∃ I : Nat → Sl → Prop, (∃ m, I m s) ∧ ∀ m s', I m s' → v s' (fun c => cond c (w s' { E with nx := fun s2 => ∃ m', m' < m ∧ I m' s2, ct := fun s2 => ∃ m', m' < m ∧ I m' s2, bk := E.nx }) (E.nx s')) E.ex
theorem fs_while (po : PassesOwn (model X.prog X.w) X.A X.env X.xe) (ht : FT X L W e tA vA) (hb : FSs X L W sts t w) : FS X L W (.While e sts [] pos) (tWhile tA t) (wWhile vA w) := by
  refine ⟨ps_while po ht.pe hb.pe, fun b F s σ H E D' I h ok => ?_⟩
  obtain ⟨Iv, ⟨n0, h⟩, hst⟩ := h
  refine ⟨fun m σ H => ∃ F1 s1, Rel X.K L b F1 s1 σ H ∧ Same F F1 ∧ Iv m s1, ⟨n0, F, s, I, Same.refl F, h⟩, ?_⟩
  rintro m σ1 H1 ⟨F1, s1, I1, m1, q⟩
  refine ht.snd b F1 s1 σ1 H1 _ E.ex _ I1 (hst m s1 q) (ok.mono m1).exw fun F2 z H2 I2 m2 k2 q2 => ?_
  cases z with
  | false => rw [if_neg Bool.false_ne_true]; exact ok.nx F2 s1 σ1 H2 I2 (m1.trans m2) q2
  | true =>
    rw [if_pos rfl]
    refine ⟨fun σ' H' => ∃ m', m' < m ∧ ∃ F3 s3, Rel X.K L b F3 s3 σ' H' ∧ Same F F3 ∧ Iv m' s3, fun σ' H' z => z, ?_⟩
    exact hb.snd b F2 s1 σ1 H2 _ _ I2 q2 ⟨fun F4 s4 σ4 H4 I4 m4 ⟨m', hm, z⟩ => ⟨m', hm, F4, s4, I4, m1.trans (m2.trans m4), z⟩, fun F4 s4 σ4 H4 v d I4 m4 r z => ok.rt F4 s4 σ4 H4 v d I4 (m1.trans (m2.trans m4)) r z,
      fun F4 s4 σ4 H4 I4 m4 z => ok.nx F4 s4 σ4 H4 I4 (m1.trans (m2.trans m4)) z, fun F4 s4 σ4 H4 I4 m4 ⟨m', hm, z⟩ => ⟨m', hm, F4, s4, I4, m1.trans (m2.trans m4), z⟩, fun cls F4 s4 σ4 H4 I4 m4 z => ok.ex cls F4 s4 σ4 H4 I4 (m1.trans (m2.trans m4)) z,
      fun F4 s4 σ4 H4 p vs ds I4 m4 fr e r z => ok.rn F4 s4 σ4 H4 p vs ds I4 (m1.trans (m2.trans m4)) fr e r z⟩
end
end FL

/-! FL7: what is walked; built-in calls. -/
namespace FL
open PySem PySem.Spec PyProof.Rows L2
section
variable {X : Cx} {L : Lw} {W : WX} {pos p : Pos} {tg a c e : Expr} {ta tb tc te : TE} {wa wb wc we : We} {wl : Wl} {t : TA}
/-! ### what is walked -/
def sgn (n : Nat) : D := .str ⟨#[n]⟩
def seqD : D → (List D → Prop) → Prop
  | .list ds, Q => Q ds
  | .tuple ds, Q => Q ds
  | .str z, Q => Q (z.cps.toList.map sgn)
  | _, _ => False
abbrev iSeq (K : PySem.W.Frag) (te : TE) : TI := fun σ H R => te σ H fun x H1 => (∃ a, x = .ref a ∧ (∃ xs, SqL K H1 a xs) ∧ R (Itl K a) H1) ∨ (∃ a, x = .ref a ∧ (∃ xs, SqT K H1 a xs) ∧ R (Itt K a) H1) ∨ ∃ z, x = .str z ∧ R (Its z) H1
theorem pi_seq (he : PE X e te) : PI X tg e (iSeq X.K te) := by
  refine ⟨fun pins s σ H R I h => ?_⟩
  refine thn (he.run pins s σ H _ I h) fun v s1 h1 => ?_
  obtain ⟨x, H1, I1, r1, q⟩ := h1
  rcases q with ⟨p, rfl, ⟨xs, hq⟩, q⟩ | ⟨p, rfl, ⟨xs, hq⟩, q⟩ | ⟨x, rfl, q⟩
  · cases r1
    obtain ⟨its, rv, pl, hz⟩ := I1.list hq
    exact wpAny_pyIter_list pl.isList (pi_one (tk := s1.toks) I1 _ (turn_list p _) ⟨_, Heap.get?_push_size _ rfl, rfl, rfl⟩ q)
  · cases r1
    obtain ⟨its, rv, pl, hz⟩ := I1.tuple hq
    exact wpAny_pyIter_tuple (show s1.heap.IsTuple p its.toArray from pl) (pi_one (tk := s1.toks) I1 _ (turn_tuple p _) ⟨_, Heap.get?_push_size _ rfl, rfl, rfl⟩ q)
  · obtain ⟨t, rfl⟩ := r1
    cases ha : x.cps.all (· < 128)
    · exact wpAny_pyIter_wide ha (pi_one (tk := s1.toks) I1 _ (turn_str _ x t "str_iterator" (.inr rfl)) ⟨_, Heap.get?_push_size _ rfl, rfl, rfl⟩ q)
    · exact wpAny_pyIter_ascii ha (pi_one (tk := s1.toks) I1 _ (turn_str _ x t "str_ascii_iterator" (.inl rfl)) ⟨_, Heap.get?_push_size _ rfl, rfl, rfl⟩ q)
def wSeqI (wa : We) : Wl := fun s Q R => wa s (fun d => seqD d Q) R
section
variable {K : PySem.W.Frag} {b : Beg} {F H : Hp}
theorem wkd_same {J : It} {ds : List D} {n : Nat} {G : Hp → Prop} {Y : Nat → V → Prop} (hw : Walk J n G (fun i H x H' => H' = H ∧ Y i x)) (hn : n = ds.length) {P : Sl → L2.St → Prop} (hG : ∀ (b1 : Beg) F1 s1 σ1 H1, Rel K L b1 F1 s1 σ1 H1 → Same F F1 → P s1 σ1 → G H1)
    (hY : ∀ F1, Same F F1 → ∀ i x, i < n → Y i x → ∃ d, ds[i]? = some d ∧ Dt K F1 x d) : WalkD K L b F P J ds := by
  subst hn
  intro b1 F1 s1 σ1 H1 I1 m1 hp
  have g := hG b1 F1 s1 σ1 H1 I1 m1 hp
  refine ⟨fun i hi => hw.goes i H1 hi g, hw.stops H1 g, fun i x H' hi y => ?_⟩
  obtain ⟨e, y⟩ := hw.yields i H1 x H' hi g y
  obtain ⟨d, e1, r⟩ := hY F1 m1 i x hi y
  subst e
  exact ⟨F1, d, e1, I1, Same.refl F1, Kp.refl, r⟩
theorem wkd_list {a : Addr} {xs : List V} {ds : List D} (h : SqL K F a xs) (r : DtAll K F xs ds) : WalkD K L b F (fun _ _ => True) (Itl K a) ds :=
  wkd_same (walk_list (K := K) (a := a) (xs := xs)) (dps_len r) (fun _ F1 s1 σ1 H1 I1 m1 _ => I1.sub.seq (m1.seq h)) fun F1 m1 i x hi y => dps_getv (dps_mono m1 r) y
theorem wkd_tup {a : Addr} {xs : List V} {ds : List D} (h : SqT K F a xs) (r : DtAll K F xs ds) : WalkD K L b F (fun _ _ => True) (Itt K a) ds :=
  wkd_same (walk_tup (K := K) (a := a) (xs := xs)) (dps_len r) (fun _ F1 s1 σ1 H1 I1 m1 _ => same_sqT I1.sub (same_sqT m1 h)) fun F1 m1 i x hi y => dps_getv (dps_mono m1 r) y
theorem wkd_str {z : Str} : WalkD K L b F (fun _ _ => True) (Its z) (z.cps.toList.map sgn) :=
  wkd_same (walk_str (z := z)) (by simp) (fun _ _ _ _ _ _ _ _ => trivial) fun F1 m1 i x hi y => by
    obtain ⟨c, e, rfl⟩ := y
    exact ⟨sgn c, by rw [List.getElem?_map, Array.getElem?_toList, e]; rfl, .str _⟩
end
theorem fi_seq (he : FE X L W e te we) : FI X L W tg e (iSeq X.K te) (wSeqI we) := by
  refine ⟨pi_seq he.pe, fun b F s σ H Q R k I h hx kk => ?_⟩
  refine he.snd b F s σ H _ R _ I h hx fun F1 d v H1 I1 m1 k1 r1 q => ?_
  cases r1 with
  | lst h1 h2 => exact .inl ⟨_, rfl, ⟨_, I1.sub.seq h1⟩, kk F1 _ _ H1 I1 m1 k1 (wkd_list h1 h2) q⟩
  | tup h1 h2 => exact .inr (.inl ⟨_, rfl, ⟨_, same_sqT I1.sub h1⟩, kk F1 _ _ H1 I1 m1 k1 (wkd_tup h1 h2) q⟩)
  | str z => exact .inr (.inr ⟨_, rfl, kk F1 _ _ H1 I1 m1 k1 wkd_str q⟩)
  | _ => exact q.elim
/-- range -/
def rngD (lo : Int) (n : Nat) : List D := (List.range n).map fun i => .int (lo + (i : Nat))
def rngC (lo c : Int) (n : Nat) : List D := (List.range n).map fun i => .int (lo + (i : Nat) * c)
def RgI (i : Int) : Prop := -(2 ^ 62) ≤ i ∧ i < 2 ^ 62
def wRng1 (wl : Wl) : Wl := fun s Q R => wl s (fun ds => match ds with
  | [.int n] => RgI n ∧ Q (rngD 0 n.toNat)
  | _ => False) R
def wRng2 (wl : Wl) : Wl := fun s Q R => wl s (fun ds => match ds with
  | [.int m, .int n] => RgI m ∧ RgI n ∧ Q (rngD m (n - m).toNat)
  | _ => False) R
def wRng3 (wl : Wl) : Wl := fun s Q R => wl s (fun ds => match ds with
  | [.int m, .int n, .int c] => ∃ k, RgC m n c k ∧ Q (rngC m c k)
  | _ => False) R
theorem rng_at {lo : Int} {n : Nat} {K : PySem.W.Frag} {F : Hp} {i : Nat} {x : V} (hi : i < n) (e : x = .int (lo + i)) : ∃ d, (rngD lo n)[i]? = some d ∧ Dt K F x d := by
  subst e
  exact ⟨.int (lo + i), by simp [rngD, hi], .int _⟩
theorem wkd_rng {K : PySem.W.Frag} {b : Beg} {F : Hp} {lo : Int} {n : Nat} : WalkD K L b F (fun _ _ => True) (Itr lo n) (rngD lo n) :=
  wkd_same (walk_range (lo := lo) (n := n)) (by simp [rngD]) (fun _ _ _ _ _ _ _ _ => trivial) fun F1 m1 i x hi y => rng_at hi y
theorem wkd_rngC {K : PySem.W.Frag} {b : Beg} {F : Hp} {lo c : Int} {n : Nat} : WalkD K L b F (fun _ _ => True) (Itc lo c n) (rngC lo c n) :=
  wkd_same (walk_rangeC (lo := lo) (c := c) (n := n)) (by simp [rngC]) (fun _ _ _ _ _ _ _ _ => trivial) fun F1 m1 i x hi y => by
    have y' : x = .int (lo + (i : Nat) * c) := y
    subst y'
    exact ⟨.int (lo + (i : Nat) * c), by simp [rngC, hi], .int _⟩
theorem fi_rng1 (hm : X.mg "range" = none) (ha : FLs X L W [a] t wl) (hg : Gl X "range" := by rfl) (hs : starEach [a] X.env = [(false, eval a X.env)] := by rfl) : FI X L W tg (.Call (.Name "range" p) [a] [] pos) (iRng1 t) (wRng1 wl) := by
  refine ⟨pi_range1 hg hm ha.pe hs, fun b F s σ H Q R k I h hx kk => ?_⟩
  refine ha.snd b F s σ H _ R _ I h hx fun F1 ds vs H1 I1 m1 k1 r1 q => ?_
  split at q
  · cases r1 with
    | cons h1 h2 =>
      cases h1
      cases h2
      exact ⟨_, rfl, q.1.1, q.1.2, kk F1 _ _ H1 I1 m1 k1 wkd_rng q.2⟩
  · exact q.elim
theorem fi_rng2 (hm : X.mg "range" = none) (ha : FLs X L W [a, c] t wl) (hg : Gl X "range" := by rfl) (hs : starEach [a, c] X.env = [(false, eval a X.env), (false, eval c X.env)] := by rfl) (hs2 : starEach [c] X.env = [(false, eval c X.env)] := by rfl) : FI X L W tg (.Call (.Name "range" p) [a, c] [] pos) (iRng2 t) (wRng2 wl) := by
  refine ⟨pi_range2 hg hm ha.pe hs hs2, fun b F s σ H Q R k I h hx kk => ?_⟩
  refine ha.snd b F s σ H _ R _ I h hx fun F1 ds vs H1 I1 m1 k1 r1 q => ?_
  split at q
  · cases r1 with
    | cons h1 h2 =>
      cases h1
      cases h2 with
      | cons h2 h3 =>
        cases h2
        cases h3
        exact ⟨_, _, rfl, ⟨q.1.1, q.1.2, q.2.1.1, q.2.1.2⟩, kk F1 _ _ H1 I1 m1 k1 wkd_rng q.2.2⟩
  · exact q.elim
/-! ### built-in functions by data -/
structure CalD (X : Cx) (L : Lw) (f : Value) (r : List V → Hp → VK → Prop) (w : List D → (D → Prop) → Prop) : Prop where
  opr : CallR X f r
  snd : ∀ (b : Beg) (F : Hp) (s : Sl) (σ : L2.St) (H : Hp) (vs : List V) (ds : List D) (Q : D → Prop) (k : VK), Rel X.K L b F s σ H → DtAll X.K F vs ds → w ds Q →
    (∀ F' c v H', Rel X.K L b F' s σ H' → Same F F' → Kp b H H' → Dt X.K F' v c → Q c → k v H') → r vs H k
def wCal (w : List D → (D → Prop) → Prop) (wl : Wl) : We := fun s Q R => wl s (fun ds => w ds Q) R
variable {x : Str} {id T : String} {es : List Expr} {r : List V → Hp → VK → Prop} {w : List D → (D → Prop) → Prop}
theorem fe_bi (o : CalD X L (.builtin id) r w) (hm : X.mg x = none) (hv : bootBuiltins x = some (.builtin id)) (ha : FLs X L W (e :: es) t wl) (hg : Gl X x := by rfl) (hn : x ≠ "__name__" := by decide) (hdb : (x == ("__debug__" : Str)) = false := by decide)
    (he : starEach (e :: es) X.env = (false, eval e X.env) :: starEach es X.env := by rfl) (hpl : (backTo pos (starEach es X.env)).any (·.1) = false := by rfl) : FE X L W (.Call (.Name x p) (e :: es) [] pos) (tCB r t) (wCal w wl) := by
  refine ⟨pe_callB o.opr hg hm hv ha.pe hn hdb he hpl, fun b F s σ H Q R k I h hx kk => ?_⟩
  refine ha.snd b F s σ H _ R _ I h hx fun F1 ds vs H1 I1 m1 k1 r1 q => ?_
  exact o.snd b F1 s σ H1 vs ds Q k I1 r1 q fun F2 c v H2 I2 m2 k2 r2 z => kk F2 c v H2 I2 (m1.trans m2) (k1.trans k2) r2 z
theorem fe_ty (o : CalD X L (.type T) r w) (hm : X.mg x = none) (hv : bootBuiltins x = some (.type T)) (ha : FLs X L W (e :: es) t wl) (hg : Gl X x := by rfl) (hn : x ≠ "__name__" := by decide) (hdb : (x == ("__debug__" : Str)) = false := by decide)
    (he : starEach (e :: es) X.env = (false, eval e X.env) :: starEach es X.env := by rfl) (hpl : (backTo pos (starEach es X.env)).any (·.1) = false := by rfl) : FE X L W (.Call (.Name x p) (e :: es) [] pos) (tCB r t) (wCal w wl) := by
  refine ⟨pe_callTy o.opr hg hm hv ha.pe hn hdb he hpl, fun b F s σ H Q R k I h hx kk => ?_⟩
  refine ha.snd b F s σ H _ R _ I h hx fun F1 ds vs H1 I1 m1 k1 r1 q => ?_
  exact o.snd b F1 s σ H1 vs ds Q k I1 r1 q fun F2 c v H2 I2 m2 k2 r2 z => kk F2 c v H2 I2 (m1.trans m2) (k1.trans k2) r2 z
abbrev rAbs : List V → Hp → VK → Prop := fun xs H Q => ∃ i, xs = [.int i] ∧ Q (.int (if i < 0 then -i else i)) H
abbrev rMax2 : List V → Hp → VK → Prop := fun xs H Q => ∃ i j, xs = [.int i, .int j] ∧ Q (.int (if j > i then j else i)) H
abbrev rMin2 : List V → Hp → VK → Prop := fun xs H Q => ∃ i j, xs = [.int i, .int j] ∧ Q (.int (if j < i then j else i)) H
abbrev rInt1 : List V → Hp → VK → Prop := fun xs H Q => (∃ i, xs = [.int i] ∧ Q (.int i) H) ∨ ∃ k, xs = [.bl k] ∧ Q (.int (if k then 1 else 0)) H
abbrev rLen (K : PySem.W.Frag) : List V → Hp → VK → Prop := fun xs H Q => ∃ x n, xs = [x] ∧ LenV K x H n ∧ Q (.int n) H
def dAbs : List D → (D → Prop) → Prop := fun ds Q => match ds with
  | [.int i] => Q (.int (if i < 0 then -i else i))
  | _ => False
theorem cal_abs : CalD X L (.builtin "abs") rAbs dAbs := by
  refine ⟨call_abs, fun b F s σ H vs ds Q k I h q kk => ?_⟩
  unfold dAbs at q
  split at q
  · cases h with
    | cons h1 h2 => cases h1; cases h2; exact ⟨_, rfl, kk F _ _ H I (Same.refl F) Kp.refl (.int _) q⟩
  · exact q.elim
def dMax2 : List D → (D → Prop) → Prop := fun ds Q => match ds with
  | [.int i, .int j] => Q (.int (if j > i then j else i))
  | _ => False
theorem cal_max2 (hc : X.calm = true) : CalD X L (.builtin "max") rMax2 dMax2 := by
  refine ⟨call_max2 hc, fun b F s σ H vs ds Q k I h q kk => ?_⟩
  unfold dMax2 at q
  split at q
  · cases h with
    | cons h1 h2 =>
      cases h1
      cases h2 with
      | cons h2 h3 => cases h2; cases h3; exact ⟨_, _, rfl, kk F _ _ H I (Same.refl F) Kp.refl (.int _) q⟩
  · exact q.elim
def dMin2 : List D → (D → Prop) → Prop := fun ds Q => match ds with
  | [.int i, .int j] => Q (.int (if j < i then j else i))
  | _ => False
theorem cal_min2 (hc : X.calm = true) : CalD X L (.builtin "min") rMin2 dMin2 := by
  refine ⟨call_min2 hc, fun b F s σ H vs ds Q k I h q kk => ?_⟩
  unfold dMin2 at q
  split at q
  · cases h with
    | cons h1 h2 =>
      cases h1
      cases h2 with
      | cons h2 h3 => cases h2; cases h3; exact ⟨_, _, rfl, kk F _ _ H I (Same.refl F) Kp.refl (.int _) q⟩
  · exact q.elim
def dInt1 : List D → (D → Prop) → Prop := fun ds Q => match ds with
  | [.int i] => Q (.int i)
  | [.bool b] => Q (.int (if b then 1 else 0))
  | _ => False
theorem cal_int1 : CalD X L (.type "int") rInt1 dInt1 := by
  refine ⟨call_int1, fun b F s σ H vs ds Q k I h q kk => ?_⟩
  unfold dInt1 at q
  split at q
  · cases h with
    | cons h1 h2 => cases h1; cases h2; exact .inl ⟨_, rfl, kk F _ _ H I (Same.refl F) Kp.refl (.int _) q⟩
  · cases h with
    | cons h1 h2 => cases h1; cases h2; exact .inr ⟨_, rfl, kk F _ _ H I (Same.refl F) Kp.refl (.int _) q⟩
  · exact q.elim
/-! ### one argument, only looked at -/
structure CalB (X : Cx) (L : Lw) (f : Value) (r : List V → Hp → VK → Prop) (w : D → (D → Prop) → Prop) : Prop where
  opr : CallR X f r
  snd : ∀ (b : Beg) (F : Hp) (s : Sl) (σ : L2.St) (H : Hp) (v : V) (d : D) (Q : D → Prop) (k : VK), Rel X.K L b F s σ H → DpB X.K b F H v d → w d Q →
    (∀ F' c v H', Rel X.K L b F' s σ H' → Same F F' → Kp b H H' → Dt X.K F' v c → Q c → k v H') → r [v] H k
def wCalB (w : D → (D → Prop) → Prop) (wa : We) : We := fun s Q R => wa s (fun d => w d Q) R
variable {w1 : D → (D → Prop) → Prop}
theorem fe_bi1 (o : CalB X L (.builtin id) r w1) (hm : X.mg x = none) (hv : bootBuiltins x = some (.builtin id)) (ha : FB X L W e te we) (hg : Gl X x := by rfl) (hn : x ≠ "__name__" := by decide) (hdb : (x == ("__debug__" : Str)) = false := by decide)
    (he : starEach [e] X.env = (false, eval e X.env) :: starEach [] X.env := by rfl) : FE X L W (.Call (.Name x p) [e] [] pos) (tCB r (tCons te tNil)) (wCalB w1 we) := by
  refine ⟨pe_callB o.opr hg hm hv (pa_cons ha.pe pa_nil he) hn hdb he rfl, fun b F s σ H Q R k I h hx kk => ?_⟩
  refine ha.snd b F s σ H _ R _ I h hx fun F1 d v H1 I1 m1 k1 r1 q => ?_
  exact o.snd b F1 s σ H1 v d Q k I1 r1 q fun F2 c v H2 I2 m2 k2 r2 z => kk F2 c v H2 I2 (m1.trans m2) (k1.trans k2) r2 z
theorem fe_ty1 (o : CalB X L (.type T) r w1) (hm : X.mg x = none) (hv : bootBuiltins x = some (.type T)) (ha : FB X L W e te we) (hg : Gl X x := by rfl) (hn : x ≠ "__name__" := by decide) (hdb : (x == ("__debug__" : Str)) = false := by decide)
    (he : starEach [e] X.env = (false, eval e X.env) :: starEach [] X.env := by rfl) : FE X L W (.Call (.Name x p) [e] [] pos) (tCB r (tCons te tNil)) (wCalB w1 we) := by
  refine ⟨pe_callTy o.opr hg hm hv (pa_cons ha.pe pa_nil he) hn hdb he rfl, fun b F s σ H Q R k I h hx kk => ?_⟩
  refine ha.snd b F s σ H _ R _ I h hx fun F1 d v H1 I1 m1 k1 r1 q => ?_
  exact o.snd b F1 s σ H1 v d Q k I1 r1 q fun F2 c v H2 I2 m2 k2 r2 z => kk F2 c v H2 I2 (m1.trans m2) (k1.trans k2) r2 z
def dLen : D → (D → Prop) → Prop := fun d Q => match d with
  | .list ds => Q (.int ds.length)
  | .tuple ds => Q (.int ds.length)
  | .str z => z.length ≤ sizeLine ∧ Q (.int z.length)
  | _ => False
theorem cal_len : CalB X L (.builtin "len") (rLen X.K) dLen := by
  refine ⟨call_len, fun b F s σ H v d Q k I h q kk => ?_⟩
  have h' := h.at I.sub
  cases h' with
  | lst h1 h2 => exact ⟨_, _, rfl, .inl ⟨_, h1, (dps_len h2).symm⟩, kk F _ _ H I (Same.refl F) Kp.refl (.int _) q⟩
  | tup h1 h2 => exact ⟨_, _, rfl, .inr ⟨_, h1, (dps_len h2).symm⟩, kk F _ _ H I (Same.refl F) Kp.refl (.int _) q⟩
  | str z => exact ⟨_, _, rfl, ⟨q.1, rfl⟩, kk F _ _ H I (Same.refl F) Kp.refl (.int _) q.2⟩
  | _ => exact q.elim
/-! ### isinstance(x, T), T a built-in type -/
def tyD : D → String
  | .none => "NoneType" | .bool _ => "bool" | .int _ => "int" | .str _ => "str" | .list _ => "list" | .tuple _ => "tuple" | .dict _ => "dict"
def isIntD : D → Bool
  | .int _ => true | .bool _ => true | _ => false
def isBoolD : D → Bool
  | .bool _ => true | _ => false
def isStrD : D → Bool
  | .str _ => true | _ => false
def isTupD : D → Bool
  | .tuple _ => true | _ => false
def isLstD : D → Bool
  | .list _ => true | _ => false
def isDctD : D → Bool
  | .dict _ => true | _ => false
structure IsiD (T : String) (f : D → Bool) : Prop where
  ok : ∀ d, kitB (tyD d) T = some (f d)
def tyNames : List String := ["NoneType", "bool", "int", "str", "list", "tuple", "dict"]
theorem isi_by {T : String} {f : D → Bool} (g : String → Bool) (h1 : ∀ d, f d = g (tyD d)) (h2 : (tyNames.all fun n => kitB n T == some (g n)) = true) : IsiD T f := ⟨fun d => by
  rw [h1 d]
  have h : tyD d ∈ tyNames := by cases d <;> simp [tyD, tyNames]
  exact beq_iff_eq.mp (List.all_eq_true.mp h2 _ h)⟩
theorem isi_int : IsiD "int" isIntD := isi_by (fun n => n == "int" || n == "bool") (fun d => by cases d <;> rfl) (by decide +kernel)
theorem isi_bool : IsiD "bool" isBoolD := isi_by (fun n => n == "bool") (fun d => by cases d <;> rfl) (by decide +kernel)
theorem isi_str : IsiD "str" isStrD := isi_by (fun n => n == "str") (fun d => by cases d <;> rfl) (by decide +kernel)
theorem isi_tup : IsiD "tuple" isTupD := isi_by (fun n => n == "tuple") (fun d => by cases d <;> rfl) (by decide +kernel)
theorem isi_lst : IsiD "list" isLstD := isi_by (fun n => n == "list") (fun d => by cases d <;> rfl) (by decide +kernel)
theorem tyx_of {K : PySem.W.Frag} {H : Hp} {v : V} {d : D} (h : Dt K H v d) : TyX K H v (.type (tyD d)) := by
  cases h with
  | non => exact .base .non
  | bl b => exact .base (.bl b)
  | int i => exact .base (.int i)
  | str x => exact .base (.str x)
  | lst h1 h2 =>
    rcases h1 with (h1 | ⟨o, h1⟩) | ⟨o, its, n, h1, h3, _⟩
    · exact .base (.lst h1)
    · exact .base (.frz h1)
    · exact .kList h1 h3
  | tup h1 h2 =>
    rcases h1 with (h1 | ⟨o, h1⟩) | ⟨o, its, n, h1, h3, _⟩
    · exact .base (.tup h1)
    · exact .fTuple h1
    · exact .kTuple h1 h3
def wIsi (f : D → Bool) (wa : We) : We := fun s Q R => wa s (fun d => Q (.bool (f d))) R
theorem fe_isi {y : Str} {p2 : Pos} {f : D → Bool} (o : IsiD T f) (hm : X.mg "isinstance" = none) (hb : bootBuiltins "isinstance" = some (.builtin "isinstance")) (hmT : X.mg y = none) (hv : bootBuiltins y = some (.type T)) (ha : FB X L W e te we) (hg : Gl X "isinstance" := by rfl) (hgT : Gl X y := by rfl)
    (hn : y ≠ "__name__" := by decide) (hdb : (y == ("__debug__" : Str)) = false := by decide) (he : starEach (e :: [.Name y p2]) X.env = (false, eval e X.env) :: starEach [.Name y p2] X.env := by rfl) :
    FE X L W (.Call (.Name "isinstance" p) [e, .Name y p2] [] pos) (tCB (rIsi X.K) (tCons te (tCons (tC (.ty T)) tNil))) (wIsi f we) := by
  refine ⟨pe_callB call_isi hg hm hb (pa_cons ha.pe (pa_cons (pe_bltn hgT hmT hv rfl hn hdb) pa_nil) he) (by decide) (by decide) he rfl, fun b F s σ H Q R k I h hx kk => ?_⟩
  refine ha.snd b F s σ H _ R _ I h hx fun F1 d v H1 I1 m1 k1 r1 q => ?_
  exact ⟨v, .ty T, .type (tyD d), .type T, f d, rfl, .ty T, tyx_of (r1.at I1.sub), kit_ty (o.ok d), kk F1 _ _ H1 I1 m1 k1 (.bl _) q⟩
/-! ### xs.append(e) -/
def wApp (i : Nat) (wa : We) : Ws := fun s E => match s[i]? with
  | some (.ow ds) => wa s (fun d => ds.length < sizeLine ∧ E.nx (s.set i (.ow (ds ++ [d])))) E.ex
  | _ => False
theorem Rel.grow {K : PySem.W.Frag} {b : Beg} {F : Hp} {s : Sl} {σ : L2.St} {H : Hp} {i : Nat} {ds es : List D} {a : Addr} {us : List V} (I : Rel K L b F s σ H) (e : s[i]? = some (.ow ds)) (ea : σ[i]? = some (some (.ref a))) (r : DtAll K F us es) :
    Rel K L b F (s.set i (.ow es)) σ (upd H a (.lst us)) := by
  have hi : i < s.length := (List.getElem?_eq_some_iff.mp e).1
  have hsg : σ.getD i none = some (.ref a) := by rw [List.getD_eq_getElem?_getD, ea]; rfl
  obtain ⟨a', vs, e1, h0, hd, hf, hh, hs⟩ := I.slot i _ e
  rw [hsg] at e1
  cases e1
  have ne : ∀ c o, H c = some o → (∀ ys, o ≠ .lst ys) → c ≠ a := fun c o h n z => by subst z; rw [hh] at h; cases h; exact n vs rfl
  have kp : Kp b b.H0 (upd H a (.lst us)) := fun c o h n t => by
    have z : c ≠ a := fun z => by subst z; rw [h0] at h; cases h
    rw [upd_ne z]; exact I.keep c o h n t
  refine { sub := fun c o h => ?_, old := I.old, new := I.new, keep := kp, live := fun c h => ?_, drw := fun c h => ?_, tab := fun P h => ?_, ntb := I.ntb, len := by rw [List.length_set]; exact I.len, slot := fun j c h => ?_, apart := fun j k c n h1 h2 h3 => ?_ }
  · have z : c ≠ a := fun z => by subst z; rw [hf] at h; cases h
    rw [upd_ne z]; exact I.sub c o h
  · refine I.live c ?_
    by_cases z : c = a
    · subst z; rw [upd_same] at h; cases h
    · rw [upd_ne z] at h; exact h
  · obtain ⟨h1, ws, fs, h2, h3⟩ := I.drw c h
    have z : c ≠ a := fun z => hd (by rw [← z]; exact h)
    exact ⟨h1, ws, fs, by rw [upd_ne z]; exact h2, h3⟩
  · obtain ⟨ps, h1, h2⟩ := I.tab P h
    exact ⟨ps, by rw [upd_ne (ne P _ h1 fun ys z => by cases z)]; exact h1, h2⟩
  · by_cases q : j = i
    · subst q
      rw [List.getElem?_set, if_pos rfl, if_pos hi] at h
      cases h
      exact ⟨a, us, hsg, h0, hd, hf, upd_same, r⟩
    · rw [List.getElem?_set_ne (Ne.symm q)] at h
      have x := I.slot j c h
      cases c with
      | no => trivial
      | fz d => exact x
      | dr => exact x
      | px _ => exact x
      | lk fs =>
        obtain ⟨a2, ws, e2, g0, gd, gh, gs⟩ := x
        exact ⟨a2, ws, e2, g0, gd, by rw [upd_ne (fun z => g0 (by rw [z]; exact h0))]; exact gh, gs⟩
      | ow fs =>
        obtain ⟨a2, ws, e2, g0, gd, gf, gh, gs⟩ := x
        have z : a2 ≠ a := fun z => by
          subst z
          have hj : j < σ.length := by rw [I.len]; exact (List.getElem?_eq_some_iff.mp h).1
          have ej : σ[j]? = some (some (.ref a2)) := by
            rw [List.getD_eq_getElem?_getD, List.getElem?_eq_getElem hj] at e2
            rw [List.getElem?_eq_getElem hj]; exact congrArg some e2
          exact I.apart i j a2 (Ne.symm q) (by rw [e]; trivial) (by rw [h]; trivial) ea ej
        exact ⟨a2, ws, e2, g0, gd, gf, by rw [upd_ne z]; exact gh, gs⟩
  · have fix : ∀ {m : Nat}, isOw (s.set i (.ow es))[m]? → isOw s[m]? := fun {m} z => by
      by_cases q : m = i
      · subst q; rw [e]; trivial
      · rw [List.getElem?_set_ne (Ne.symm q)] at z; exact z
    exact I.apart j k c n (fix h1) (fix h2) h3
theorem slot_ref {K : PySem.W.Frag} {b : Beg} {F : Hp} {s : Sl} {σ : L2.St} {H : Hp} {i : Nat} {ds : List D} (I : Rel K L b F s σ H) (e : s[i]? = some (.ow ds)) : ∃ a vs, σ[i]? = some (some (.ref a)) ∧ b.H0 a = none ∧ b.dr ≠ some a ∧ F a = none ∧ H a = some (.lst vs) ∧ DtAll K F vs ds := by
  obtain ⟨a, vs, e1, h0, hd, hf, hh, hs⟩ := I.slot i _ e
  have hj : i < σ.length := by rw [I.len]; exact (List.getElem?_eq_some_iff.mp e).1
  refine ⟨a, vs, ?_, h0, hd, hf, hh, hs⟩
  rw [List.getD_eq_getElem?_getD, List.getElem?_eq_getElem hj] at e1
  rw [List.getElem?_eq_getElem hj]
  exact congrArg some e1
theorem fs_app (i : Nat) {x : Str} {p2 p3 : Pos} (ha : FE X L W e te we) (hN : X.N[i]? = some x := by rfl) (hv : Vis X.env.scope x := by first | exact Or.inl rfl | exact Or.inr (Or.inl rfl) | exact Or.inr (Or.inr rfl)) (hd : (x == ("__debug__" : Str)) = false := by decide)
    (hcd : (x == ("__classdict__" : Str)) = false := by decide) (hbase : attributeBase (.Name x p) "append" X.env (eval (.Name x p) X.env) = eval (.Name x p) X.env := by rfl)
    (hfew : ((backTo p3 (starEach [e] X.env)).all (fun x => !x.1) && (backToKw p3 (keywordEach [] X.env)).all (fun x => x.1.isSome) && decide ([e].length + ([] : List Keyword).length + (if ([] : List Keyword).isEmpty then 0 else 1) < 30)) = true := by rfl)
    (hline : (p2.endLine == p3.line) = true := by rfl) (hst : starEach [e] X.env = (false, eval e X.env) :: starEach [] X.env := by rfl)
    (hs : swapsWith (.Call (.Attribute (.Name x p) "append" p2) [e] [] p3) none pos.line X.env = pure false := by rfl) : FS X L W (.Expr (.Call (.Attribute (.Name x p) "append" p2) [e] [] p3) pos) (tDrop (tBM X.K "list" rAppend (tVar i) (tCons te tNil))) (wApp i we) := by
  refine ⟨ps_expr (pe_bm PySem.F.plainAttrs_list PySem.F.slot_list_append PySem.F.type_list_append mt_append (pv i hN hv hd hcd) (pa_cons ha.pe pa_nil hst) hbase hfew hline hst rfl) hs, fun b F s σ H E D' I h ok => ?_⟩
  unfold wApp at h
  split at h
  · rename_i ds q
    obtain ⟨a, vs, e1, h0, hd1, hf, hh, hs1⟩ := slot_ref I q
    refine ⟨_, e1, .inl ⟨rfl, _, .inl (.inl hh)⟩, ?_⟩
    refine ha.snd b F s σ H _ E.ex _ I h ok.exw fun F1 d v H1 I1 m1 k1 r1 z => ?_
    obtain ⟨a', vs', e1', _, _, _, hh', hs'⟩ := slot_ref I1 q
    rw [e1] at e1'
    cases e1'
    exact ⟨a, vs', v, rfl, rfl, hh', by rw [dps_len hs']; exact z.1, ok.nx F1 _ _ _ (I1.grow q e1 (dps_app hs' (dps_one r1))) m1 z.2⟩
  · exact h.elim
end
end FL

/-! FL8: the draws; a law's own def. -/
namespace FL
open PySem PySem.Spec PyProof.Rows L2
/-- draws that are a row of ints -/
def goodA (ds : List D) : Prop := ∃ ns : List Int, ds = ns.map .int
def lwA (tabs : List Addr) : Lw := ⟨tabs, goodA⟩
section
variable {X : Cx} {L : Lw} {W : WX}
theorem Rel.toDr {K : PySem.W.Frag} {b : Beg} {F : Hp} {s : Sl} {σ : L2.St} {H : Hp} {p : Addr} {vs : List V} {ds : List D} {i : Nat} (I : Rel K L b F s σ H) (hb : b.dr = none) (fr : Fresh b F s σ p) (e : H p = some (.lst vs)) (r : DtAll K F vs ds) (hg : L.good ds) :
    Rel K L ⟨b.H0, b.F0, some p⟩ F (s.set i .dr) (σ.set i (some (.ref p))) H where
  sub := I.sub
  old := I.old
  new := I.new
  keep := fun a o h _ t => I.keep a o h (by rw [hb]; simp) t
  live := I.live
  drw := fun a h => by
    cases (show some p = some a from h)
    exact ⟨fr.hf, vs, ds, e, r, hg⟩
  tab := I.tab
  ntb := I.ntb
  len := by rw [List.length_set, List.length_set, I.len]
  slot := fun j c q => by
    by_cases n : j = i
    · subst n
      rw [List.getElem?_set] at q
      split at q
      · split at q
        · cases q
          rename_i hj
          refine ⟨p, ?_, rfl⟩
          rw [List.getD_eq_getElem?_getD, List.getElem?_set, if_pos rfl, if_pos (by rw [I.len]; exact hj)]
          rfl
        · cases q
      · rename_i z; exact absurd rfl z
    · rw [List.getElem?_set_ne (Ne.symm n)] at q
      have hs : (σ.set i (some (.ref p))).getD j none = σ.getD j none := by
        rw [List.getD_eq_getElem?_getD, List.getElem?_set_ne (Ne.symm n), ← List.getD_eq_getElem?_getD]
      rw [hs]
      have x := I.slot j c q
      cases c with
      | no => trivial
      | fz d => exact x
      | px _ => exact x
      | dr =>
        obtain ⟨a, _, z⟩ := x
        rw [hb] at z; cases z
      | lk fs =>
        obtain ⟨a, ws, e1, h0, hd, hh, hs1⟩ := x
        exact ⟨a, ws, e1, h0, fun z => by cases (show some p = some a from z); exact h0 fr.h0, hh, hs1⟩
      | ow fs =>
        obtain ⟨a, ws, e1, h0, hd, hf, hh, hs1⟩ := x
        refine ⟨a, ws, e1, h0, fun z => ?_, hf, hh, hs1⟩
        cases (show some p = some a from z)
        have hj : j < σ.length := by rw [I.len]; exact (List.getElem?_eq_some_iff.mp q).1
        refine fr.hn j (by rw [q]; trivial) ?_
        rw [List.getD_eq_getElem?_getD, List.getElem?_eq_getElem hj] at e1
        rw [List.getElem?_eq_getElem hj]
        exact congrArg some e1
  apart := fun j k a n h1 h2 h3 h4 => by
    have nj : ∀ m, isOw (s.set i .dr)[m]? → m ≠ i := fun m z y => by
      subst y; rw [List.getElem?_set] at z
      split at z
      · split at z <;> exact z
      · rename_i y; exact absurd rfl y
    have n1 := nj j h1
    have n2 := nj k h2
    rw [List.getElem?_set_ne (Ne.symm n1)] at h1 h3
    rw [List.getElem?_set_ne (Ne.symm n2)] at h2 h4
    exact I.apart j k a n h1 h2 h3 h4
/-- the law's own promise -/
def spLaw (K : PySem.W.Frag) (L : Lw) : Sp := fun vs H Q E => ∃ (a : Addr) (ns : List Int), vs = [.ref a] ∧ SqL K H a (ns.map V.int) ∧ ns.length ≤ 63 ∧ (∀ z ∈ ns, Builtin.Int.intBits z ≤ 1048576) ∧ (∀ P ∈ L.tabs, TabG H P) ∧ ∀ H', Q (.bl true) H'
/-- all but the tables -/
def noTab (H : Hp) : Hp := fun a => match H a with
  | some (.tbl _) => none
  | o => o
theorem noTab_some {H : Hp} {a : Addr} {o : HO} (h : noTab H a = some o) : H a = some o ∧ ∀ ps, o ≠ .tbl ps := by
  unfold noTab at h
  split at h
  · cases h
  · rename_i n
    refine ⟨h, fun ps z => ?_⟩
    subst z
    exact n ps h
theorem noTab_of {H : Hp} {a : Addr} {o : HO} (h : H a = some o) (n : ∀ ps, o ≠ .tbl ps) : noTab H a = some o := by
  unfold noTab
  split
  · rename_i ps e
    rw [h] at e
    cases e
    exact absurd rfl (n ps)
  · exact h
theorem grd_law {K : PySem.W.Frag} {H : Hp} (ht : ∀ P ∈ L.tabs, TabG H P) : Grd K L ⟨H, noTab H, none⟩ (noTab H) H where
  sub := fun a o h => (noTab_some h).1
  old := Same.refl _
  new := fun _ _ h => .inl h
  keep := Kp.refl
  live := fun _ h => h
  drw := fun a h => by cases h
  tab := ht
  ntb := fun a ps h => (noTab_some h).2 ps rfl
theorem script_noTab {K : PySem.W.Frag} {H : Hp} {a : Addr} {xs : List V} (h : SqL K H a xs) : SqL K (noTab H) a xs := by
  rcases h with (h | ⟨o, h⟩) | h
  · exact .inl (.inl (noTab_of h fun ps z => by cases z))
  · exact .inl (.inr ⟨o, noTab_of h fun ps z => by cases z⟩)
  · exact .inr h
def asgVal : Stmt → Expr
  | .Assign _ a _ => a
  | _ => .Constant .none 0 ⟨0, 0, 0, 0⟩
theorem fn_law {P : Program} {w : World} {K : PySem.W.Frag} {mg : Str → Option Value} {base : Heap} {x qual : Str} {st : Stmt} {f : Addr} {fd : FuncData} {N : List Str} {k i : Nat} {par : Str} {s0 : Stmt} {rest : List Stmt} (Fn : Fun K x qual st f fd) (S : FnScope N [par] (defScope st)) (hst : defBody st = s0 :: rest)
    (hbody : ∀ (cdv : Value), fd.code = cdv → ∀ (A : Around) (outer : List Env) (s : Shared) (H : Hp) (E : XK), Room k (A.deeper (envOfC qual (defScope st) s.heap.objs.size f cdv)) →
      L2N.Takes (cxOf (L2N.CX P w) P w K mg base N qual (defScope st) f cdv A outer s H E) (fun cls d _ H => E cls d H) →
      PassesOwn (model P w) (cxOf (L2N.CX P w) P w K mg base N qual (defScope st) f cdv A outer s H E).A (cxOf (L2N.CX P w) P w K mg base N qual (defScope st) f cdv A outer s H E).env (cxOf (L2N.CX P w) P w K mg base N qual (defScope st) f cdv A outer s H E).xe →
      ∃ t wl t2 ws, PS (cxOf (L2N.CX P w) P w K mg base N qual (defScope st) f cdv A outer s H E) s0 (tAsg t (gName i)) ∧ FN (cxOf (L2N.CX P w) P w K mg base N qual (defScope st) f cdv A outer s H E) L (fun cls d _ H => E cls d H) (asgVal s0) t wl ∧
        FSs (cxOf (L2N.CX P w) P w K mg base N qual (defScope st) f cdv A outer s H E) L (fun cls d _ H => E cls d H) rest t2 ws ∧
        ∀ ns : List Int, ns.length ≤ 63 → (∀ z ∈ ns, Builtin.Int.intBits z ≤ 1048576) → wl (startS N.length [.fz (.list (ns.map .int))]) (fun ds => L.good ds ∧ ws ((startS N.length [.fz (.list (ns.map .int))]).set i .dr) { nx := fun _ => False, rt := fun d => d = .bool true, ex := fun _ => False }) (fun _ => False)) :
    FnOk P w K mg base (L2N.CX P w) (k + 1) f fd [par] (spLaw K L) := by
  refine okC Fn S (fun vs H Q E h => ?_) (fun cdv hcd A outer s H vs Q E hr h => ?_)
  · obtain ⟨a, ns, rfl, _⟩ := h
    rfl
  · obtain ⟨a, ns, rfl, hS, hl, hb, ht, q⟩ := h
    obtain ⟨t, wl, t2, ws, hp, hn, hd, hq⟩ := hbody cdv hcd A outer s H E hr (L2N.takes_of rfl rfl rfl rfl) (passes_of rfl)
    refine ⟨tSeq (tAsg t (gName i)) t2, by rw [hst]; exact pss_cons hp hd.pe, ?_⟩
    have g0 := grd_law (K := K) (H := H) ht
    have I0 : Rel K L ⟨H, noTab H, none⟩ (noTab H) (startS N.length [.fz (.list (ns.map .int))]) (L2.start N [.ref a]) H := rel_start g0 ⟨.lst (script_noTab hS) (dps_of_ints ns), trivial⟩
    refine hn.snd _ _ _ _ H _ _ _ I0 (hq ns hl hb) (fun cls F' H' I m z => z.elim) fun F1 ds p vs H1 I1 m1 k1 fr e1 r1 z => ?_
    refine hd.snd _ F1 _ _ H1 _ _ (I1.toDr rfl fr e1 r1 z.1) z.2 ⟨fun F' s' σ' H' I m z => z.elim, fun F' s' σ' H' v d I m r z => ?_, fun F' s' σ' H' I m z => z.elim, fun F' s' σ' H' I m z => z.elim, fun cls F' s' σ' H' I m z => z.elim, fun F' s' σ' H' p vs ds I m fr e r z => z.elim⟩
    subst z
    cases r
    exact q H'
/-! ### taking a draw: len(draws) == 0, draws.pop() -/
def spTake : Fs := fun cs q _ => match cs with
  | [.dr, .fz (.int n)] => 0 < n ∧ ∀ v : Int, 0 ≤ v → v < n → q (.int v)
  | _ => False
theorem take_inv {cs : List Cel} {q : D → Prop} {r : Value → Prop} (h : spTake cs q r) : ∃ n : Int, cs = [.dr, .fz (.int n)] ∧ 0 < n ∧ ∀ v : Int, 0 ≤ v → v < n → q (.int v) := by
  unfold spTake at h
  split at h
  · exact ⟨_, rfl, h⟩
  · exact h.elim
theorem fn_take {P : Program} {w : World} {K : PySem.W.Frag} {mg : Str → Option Value} {base : Heap} {x qual : Str} {st : Stmt} {f : Addr} {fd : FuncData} {tabs : List Addr} (Fn : Fun K x qual st f fd) (S : FnScope ["draws", "bound"] ["draws", "bound"] (defScope st)) (ml : mg "len" = none) (mi : mg "int" = none)
    (hb : ∀ (X : Cx), X.mg = mg → X.env.scope = defScope st → X.N = (["draws", "bound"] : List Str) → PSs X (defBody st) (tSeq (tIfS (tTest (tOp rEq (tCB (rLen X.K) (tCons (tVar 0) tNil)) (tC (.int 0)))) (tRet (tC (.int 0))) tNext)
      (tRet (tOp (rI (fun _ j => 0 < j) fun i j => .int (i % j)) (tCB rInt1 (tCons (tBM0 X.K "list" rPop (tVar 0)) tNil)) (tVar 1))))) :
    FnOk P w K mg base (L2N.CX P w) 1 f fd ["draws", "bound"] (Spf K (lwA tabs) spTake) := by
  refine okC (k := 0) Fn S (fun vs H Q E h => ?_) (fun cdv _ A outer s H vs Q E hr h => ?_)
  · obtain ⟨b, F, cs, q, r, g, ha, hw, _⟩ := h
    obtain ⟨n, rfl, _⟩ := take_inv hw
    exact ha.len
  · obtain ⟨b, F, cs, q, r, g, ha, hw, h1, h2⟩ := h
    obtain ⟨n, rfl, hn, hq⟩ := take_inv hw
    refine ⟨_, hb _ rfl rfl rfl, ?_⟩
    match vs, ha with
    | [x, y], ha =>
      obtain ⟨⟨a, rfl, hdr⟩, hy, _⟩ := ha
      cases (show Dt K F y (.int n) from hy)
      obtain ⟨hf, us, ds, hh, hs, ns, rfl⟩ := g.drw a hdr
      rw [dps_ints hs] at hh
      have fin : ∀ (H' : Hp) (v : Int), Grd K (lwA tabs) b F H' → 0 ≤ v → v < n → Q (.int v) H' := fun H' v g' v0 v1 => h1 F (.int v) (.int v) H' g' (Same.refl F) (.int v) (hq v v0 v1)
      refine ⟨.ref a, rfl, _, _, rfl, .inl ⟨_, .inl (.inl hh), rfl⟩, rfl, _, rfl, ite2 (fun e => ?_) (fun e => ?_)⟩
      · exact fin H 0 g (by omega) (by omega)
      · have hne : ns ≠ [] := fun z => by
          subst z
          exact e (decide_eq_true rfl)
        have hlast : (ns.map V.int)[(ns.map V.int).length - 1]? = some (.int (ns.getLast hne)) := by
          rw [List.length_map, List.getElem?_map, ← List.getLast?_eq_getElem?, List.getLast?_eq_some_getLast hne]
          rfl
        refine ⟨.ref a, rfl, .inl ⟨rfl, _, .inl (.inl hh)⟩, a, _, _, rfl, rfl, hh, hlast, .inl ⟨_, rfl, .int n, rfl, _, n, rfl, rfl, hn, fin _ _ ?_ (Int.emod_nonneg _ (by omega)) (Int.emod_lt_of_pos _ hn)⟩⟩
        have nf : ∀ c o, F c = some o → c ≠ a := fun c o h z => by subst z; rw [hf] at h; cases h
        exact {
          sub := fun c o h => by rw [upd_ne (nf c o h)]; exact g.sub c o h
          old := g.old
          new := g.new
          keep := fun c o h d t => by
            have z : c ≠ a := fun z => by subst z; exact d hdr
            rw [upd_ne z]; exact g.keep c o h d t
          live := fun c h => g.live c (by
            by_cases z : c = a
            · subst z; rw [upd_same] at h; cases h
            · rw [upd_ne z] at h; exact h)
          drw := fun c h => by
            rw [hdr] at h
            cases h
            exact ⟨hf, _, ns.dropLast.map .int, upd_same, by rw [← List.map_dropLast]; exact dps_of_ints _, ns.dropLast, rfl⟩
          tab := fun P h => by
            obtain ⟨ps, h3, h4⟩ := g.tab P h
            have z : P ≠ a := fun z => by subst z; rw [hh] at h3; cases h3
            exact ⟨ps, by rw [upd_ne z]; exact h3, h4⟩
          ntb := g.ntb }
end
end FL

/-! FL9: list(..), tuple(..), list(reversed(..)). -/
namespace FL
open PySem PySem.Spec PyProof.Rows L2
section
variable {prog : Program} {w : World} {A : Around} {E : Value → Shared → Prop} {s : Shared}
/-- list(r), r a reversed list's iterator that has not moved -/
theorem list_of_rev {it l : Addr} {items : Array Value} {Q : Value → Shared → Prop} (hh : A.handled = none) (hit : s.heap.IsRevIter it l ((items.size : Int) - 1)) (hl : s.heap.IsList l items) (hne : l ≠ it) (hn : items.size ≤ sizeLine)
    (hQ : ∀ (h' : Heap) (tk : Nat) (acc : Array Value) (c : Nat), (∀ b o, b ≠ it → s.heap.get? b = some o → h'.get? b = some o) → h'.get? s.heap.objs.size = some { cls := .type "list", dict := none, data := .seq acc c, slots := #[] } →
      ItemsOf (fun i v => items[items.size - 1 - i]? = some v) acc items.size → Q (.ref s.heap.objs.size) { s with heap := h', toks := tk }) : wpAny (model prog w) A (call (.type "list") [.ref it]) Q E s := by
  have lt_it : it < s.heap.objs.size := let ⟨_, ho, _⟩ := hit; Heap.lt_size ho
  have lt_l : l < s.heap.objs.size := let ⟨_, ho, _⟩ := hl; Heap.lt_size ho
  have hSi : s.heap.objs.size ≠ it := Nat.ne_of_gt lt_it
  have hSl : s.heap.objs.size ≠ l := Nat.ne_of_gt lt_l
  have hSf : s.heap.objs.size ∉ [it, l] := by
    simp only [List.mem_cons, List.not_mem_nil, or_false, not_or]
    exact ⟨hSi, hSl⟩
  refine callType_codes (Q₁ := fun obj s₁ => obj = .ref s.heap.objs.size ∧ s₁ = { s with heap := s.heap.push { cls := .type "list", data := .seq #[] } }) PySem.F.called_list (PySem.F.typeCall_list_1 _) PySem.F.entry_list_init (code_list_new _ ⟨rfl, rfl⟩) ?_
  rintro obj s₁ ⟨rfl, rfl⟩
  have e0 : (s.heap.push { cls := .type "list", data := .seq #[] }).get? s.heap.objs.size = some { cls := .type "list", data := .seq #[] } := Heap.get?_push_size _ rfl
  refine ⟨⟨_, e0, rfl⟩, PySem.F.args_list_init_2 _ _, ?_⟩
  show wpAny _ A.in1.in1 (do let old ← Builtin.List.listItems (.ref s.heap.objs.size); Builtin.List.listUpdate (.ref s.heap.objs.size) (fun _ => #[]); letGo old.toList.reverse; Builtin.List.listExtendWith (.ref s.heap.objs.size) (.ref it) .none) _ _ _
  refine wpAny_bind ?_
  unfold Builtin.List.listItems
  refine wpAny_bind (wpAny_seqItems e0 rfl (wpAny_pure ?_))
  show wpAny _ A.in1.in1 (updateSeq s.heap.objs.size (fun _ => #[]) >>= fun _ => letGo (#[] : Array Value).toList.reverse >>= fun _ => Builtin.List.listExtendWith (.ref s.heap.objs.size) (.ref it) .none) _ _ _
  refine wpAny_bind (wpAny_updateSeq e0 rfl ?_)
  have e1 := Heap.get?_update_self (Obj.mapSeq (fun _ => (#[] : Array Value))) e0 rfl
  have up : ∀ b o, s.heap.get? b = some o → ((s.heap.push { cls := .type "list", data := .seq #[] }).update s.heap.objs.size (Obj.mapSeq (fun _ => (#[] : Array Value)))).get? b = some o := fun b o e =>
    (Heap.get?_update_other _ _ (Nat.ne_of_gt (Heap.lt_size e))).trans (Heap.get?_push_of_some _ e)
  refine wpAny_bind (wpAny_letGo ?_)
  have it1 := hit.at fun o e => up it o e
  have l1 : ((s.heap.push { cls := .type "list", data := .seq #[] }).update s.heap.objs.size (Obj.mapSeq (fun _ => (#[] : Array Value)))).IsList l items := by
    obtain ⟨o, ho, r⟩ := hl
    exact ⟨o, up l o ho, r⟩
  have ty : ∀ {h : Heap} {tk : Nat}, h.IsRevIter it l ((items.size : Int) - 1) → ({ s with heap := h, toks := tk } : Shared).TypeIs (.ref it) "list_reverseiterator" := fun {h tk} x => Heap.IsRevIter.typeIs (s := { s with heap := h, toks := tk }) x
  have ns : Builtin.List.listSameRef (.ref s.heap.objs.size) (.ref it) = false := by simp [Builtin.List.listSameRef, hSi]
  unfold Builtin.List.listExtendWith
  refine wpAny_bind (wpAny_typeOf (ty (tk := s.toks) it1) ?_)
  rw [if_neg (show ¬ _ by rw [ns]; decide)]
  refine wpAny_bind (wpAny_pyIter_revIter (s := { s with heap := _ }) it1 ?_)
  refine wpAny_bind (wpAny_holding ?_)
  unfold Builtin.List.listLengthHint
  refine wpAny_bind (wpAny_specialOf (ty (tk := s.toks) it1) RT.nolen_lri ?_)
  show wpAny _ A.in1.in1 (specialOf (Value.ref it) (Str.ofString "__length_hint__") >>= _) _ _ _
  refine wpAny_bind (wpAny_specialOf (ty (tk := s.toks) it1) RT.hint_lri ?_)
  generalize hid : ("list_reverseiterator.__length_hint__" : String) = id0
  wp_delta
  rw [show splitId id0 = some ("list_reverseiterator", "__length_hint__") from by subst hid; decide +kernel]
  subst hid
  refine wpAny_bind (wpAny_isInstance (b := true) (ty (tk := s.toks) it1) (by rw [isSubtype_type]; kernel_rfl) ?_)
  refine wpAny_pure ?_
  rw [if_neg (by decide)]
  have W := (Walks.listRev (prog := prog) (w := w) (A := A.in1.in1) hh it l hne items).toS
  have ez : ((items.size : Nat) : Int) - 1 - ((0 : Nat) : Int) = (items.size : Int) - 1 := by omega
  refine wpAny_pure ⟨plainId_quiet PySem.F.plain_extend_loop _, codeAny_extend_loopS W hn _ hSf _ items.size 0 _ _ _ rfl (Nat.zero_le _) ⟨Nat.zero_le _, by rw [ez]; exact it1, l1⟩ e1 (ItemsOf.nil _) ?_⟩
  intro s' acc c hm hS hacc
  refine ⟨rfl, ?_⟩
  rw [Moved.eq_with hm]
  refine hQ s'.heap s'.toks acc c (fun b o hb e => hm.heap b o (fun hmem => ?_) (up b o e)) hS hacc
  rcases List.mem_cons.mp hmem with z | z
  · exact absurd (Heap.lt_size e) (by rw [z]; exact Nat.lt_irrefl _)
  · exact hb (List.mem_singleton.mp z)
end
section
variable {X : Cx} {L : Lw} {W : WX} {pos p : Pos} {e : Expr} {te : TE} {we : We}
def tLstRev (K : PySem.W.Frag) (te : TE) : TE := fun σ H Q => te σ H fun v H1 => ∃ (a : Addr) (xs : List V), v = .ref a ∧ SqL K H1 a xs ∧ ∀ q, H1 q = none → Q (.ref q) (upd H1 q (.lst xs.reverse))
theorem pe_lstRev {p2 pos2 : Pos} (hc : X.calm = true) (hg : Gl X "list") (hm : X.mg "list" = none) (hg2 : Gl X "reversed") (hm2 : X.mg "reversed" = none) (he : PE X e te)
    (hs : starEach [e] X.env = (false, eval e X.env) :: starEach [] X.env)
    (hs2 : starEach [.Call (.Name "reversed" p2) [e] [] pos2] X.env = (false, eval (.Call (.Name "reversed" p2) [e] [] pos2) X.env) :: starEach [] X.env) :
    PE X (.Call (.Name "list" p) [.Call (.Name "reversed" p2) [e] [] pos2] [] pos) (tLstRev X.K te) := by
  refine ⟨fun pins s σ H Q I h => ?_⟩
  refine Call_ (ld_blt I hg hm boot_list (PyProof.Rows.callWith_type1 (args_cons (Call_ (ld_blt I hg2 hm2 PyProof.Rows.boot_reversed (PyProof.Rows.callWith_type1 (args_cons (thn (he.run pins s σ H _ I h) fun u s1 ⟨v, H1, I1, r1, q1⟩ => args_nil ?_) hs) hs rfl))) hs2) hs2 rfl))
  obtain ⟨a, xs, ev, hq, q⟩ := q1
  subst ev
  obtain rfl : u = Value.ref a := r1
  obtain ⟨its, rv, p', hz⟩ := I1.list hq
  refine call_reversed_list p'.isList (args_nil ?_)
  have k0 : ∀ b o, s1.heap.get? b = some o → (s1.heap.push (revObj a ((its.toArray.size : Int) - 1))).get? b = some o := fun b o e => Heap.get?_push_of_some _ e
  have I2 : L2.Inv X pins σ H1 { s1 with heap := s1.heap.push (revObj a ((its.toArray.size : Int) - 1)) } := I1.kept (t' := s1.toks) k0
  obtain ⟨f0, f1, f2, f3, f4, f5⟩ := I1.fpOk (H' := H1) (b := s1.heap.objs.size) (Nat.le_refl _) (I1.hok.fresh (Nat.le_refl _))
  have hl := p'.isList
  have hne : a ≠ s1.heap.objs.size := let ⟨_, ho, _⟩ := hl; Nat.ne_of_lt (Heap.lt_size ho)
  have hn : its.toArray.size ≤ sizeLine := by rw [List.size_toArray, ← rv.length]; exact hz
  have hne2 : s1.heap.objs.size ≠ s1.heap.objs.size + 1 := Nat.ne_of_lt (Nat.lt_succ_self _)
  refine list_of_rev (s := { s1 with heap := s1.heap.push (revObj a ((its.toArray.size : Int) - 1)) }) (I1.ok.hd hc) ⟨_, Heap.get?_push_size _ rfl, rfl, rfl⟩ (hl.push _) hne hn fun h' tk acc c hk hS hi => ?_
  have sz : (s1.heap.push (revObj a ((its.toArray.size : Int) - 1))).objs.size = s1.heap.objs.size + 1 := Heap.size_push ..
  rw [sz] at hS ⊢
  have up : ∀ b o, s1.heap.get? b = some o → h'.get? b = some o := fun b o e => hk b o (Nat.ne_of_lt (Heap.lt_size e)) (k0 b o e)
  refine ⟨.ref (s1.heap.objs.size + 1), upd H1 (s1.heap.objs.size + 1) (.lst xs.reverse), I1.laid (t' := tk) up (Nat.le_succ _) (show ObjOk X.prog X.w _ _ _ (.lst xs.reverse) from ⟨by rw [List.length_reverse]; exact hz, acc.toList, c, RT.vals_rev rv hi, ?_⟩), rfl, q _ (I1.hok.fresh (Nat.le_succ _))⟩
  rw [Array.toArray_toList]
  exact hS
theorem dps_rev {K : PySem.W.Frag} {H : Hp} : ∀ {vs : List V} {ds : List D}, DtAll K H vs ds → DtAll K H vs.reverse ds.reverse
  | _, [], h => by cases h; exact .nil
  | _, _ :: _, h => by
    cases h with
    | cons h1 h2 => rw [List.reverse_cons, List.reverse_cons]; exact dps_app (dps_rev h2) (dps_one h1)
def wLRev (wa : We) : Wl := fun s Q R => wa s (fun d => match d with
  | .list ds => Q ds.reverse
  | _ => False) R
theorem fn_listRev {p2 pos2 : Pos} (hc : X.calm = true) (hm : X.mg "list" = none) (hm2 : X.mg "reversed" = none) (he : FB X L W e te we) (hg : Gl X "list" := by rfl) (hg2 : Gl X "reversed" := by rfl)
    (hs : starEach [e] X.env = (false, eval e X.env) :: starEach [] X.env := by rfl)
    (hs2 : starEach [.Call (.Name "reversed" p2) [e] [] pos2] X.env = (false, eval (.Call (.Name "reversed" p2) [e] [] pos2) X.env) :: starEach [] X.env := by rfl) :
    FN X L W (.Call (.Name "list" p) [.Call (.Name "reversed" p2) [e] [] pos2] [] pos) (tLstRev X.K te) (wLRev we) := by
  refine ⟨pe_lstRev hc hg hm hg2 hm2 he.pe hs hs2, fun b F s σ H Q R k I h hx kk => ?_⟩
  refine he.snd b F s σ H _ R _ I h hx fun F1 d v H1 I1 m1 k1 r1 q => ?_
  split at q
  · have lay : ∀ {vs : List V} {ds : List D}, DtAll X.K F1 vs ds → Q ds.reverse → ∀ z, H1 z = none → k (.ref z) (upd H1 z (.lst vs.reverse)) := fun {vs ds} r q z hz =>
      kk F1 ds.reverse z vs.reverse _ (I1.lay hz) m1 (k1.trans (Kp.of (same_upd hz))) ⟨I1.live z hz, I1.dr_some hz, I1.f_none hz, fun i y => I1.ow_some hz i y⟩ upd_same (dps_rev r) q
    rcases r1 with r1 | ⟨a, vs, ds, rfl, e2, e3, e4, e5⟩
    · cases r1 with
      | lst h1 h2 => exact ⟨_, _, rfl, I1.sub.seq h1, lay h2 q⟩
    · cases e2
      exact ⟨_, _, rfl, .inl (.inl e4), lay e5 q⟩
  · exact q.elim
/-! ### list(x), tuple(x) of a list or a tuple -/
theorem fresh_at {b : Beg} {F : Hp} {s : Sl} {σ : L2.St} {H : Hp} {K : PySem.W.Frag} (I : Rel K L b F s σ H) {z : Addr} (hz : H z = none) : Fresh b F s σ z := ⟨I.live z hz, I.dr_some hz, I.f_none hz, fun i y => I.ow_some hz i y⟩
abbrev rListA (K : PySem.W.Frag) : List V → Hp → VK → Prop := fun xs H Q => ∃ p ys, xs = [.ref p] ∧ (SqL K H p ys ∨ SqT K H p ys) ∧ ∀ l, H l = none → Q (.ref l) (upd H l (.lst ys))
def wListA (wa : We) : Wl := fun s Q R => wa s (fun d => match d with
  | .list ds => Q ds
  | .tuple ds => Q ds
  | _ => False) R
theorem fn_list (hm : X.mg "list" = none) (he : FB X L W e te we) (hg : Gl X "list" := by rfl) (hs : starEach [e] X.env = (false, eval e X.env) :: starEach [] X.env := by rfl) : FN X L W (.Call (.Name "list" p) [e] [] pos) (tCB (rListA X.K) (tCons te tNil)) (wListA we) := by
  refine ⟨pe_callTy call_list_of hg hm boot_list (pa_cons he.pe pa_nil hs) (by decide) (by decide) hs rfl, fun b F s σ H Q R k I h hx kk => ?_⟩
  refine he.snd b F s σ H _ R _ I h hx fun F1 d v H1 I1 m1 k1 r1 q => ?_
  have lay : ∀ {vs : List V} {ds : List D}, DtAll X.K F1 vs ds → Q ds → ∀ z, H1 z = none → k (.ref z) (upd H1 z (.lst vs)) := fun {vs ds} r q z hz =>
    kk F1 ds z vs _ (I1.lay hz) m1 (k1.trans (Kp.of (same_upd hz))) (fresh_at I1 hz) upd_same r q
  rcases r1 with r1 | ⟨a, vs, ds, rfl, rfl, e3, e4, e5⟩
  · cases r1 with
    | lst h1 h2 => exact ⟨_, _, rfl, .inl (I1.sub.seq h1), lay h2 q⟩
    | tup h1 h2 => exact ⟨_, _, rfl, .inr (same_sqT I1.sub h1), lay h2 q⟩
    | _ => exact q.elim
  · exact ⟨_, _, rfl, .inl (.inl (.inl e4)), lay e5 q⟩
abbrev rTupA (K : PySem.W.Frag) : List V → Hp → VK → Prop := fun xs H Q => ∃ p ys, xs = [.ref p] ∧ ((SqL K H p ys ∧ ∀ l, H l = none → Q (.ref l) (upd H l (.tup ys))) ∨ (SqT K H p ys ∧ Q (.ref p) H))
def dTupA : D → (D → Prop) → Prop := fun d Q => match d with
  | .list ds => Q (.tuple ds)
  | .tuple ds => Q (.tuple ds)
  | _ => False
theorem cal_tuple : CalB X L (.type "tuple") (rTupA X.K) dTupA := by
  refine ⟨call_tuple_of, fun b F s σ H v d Q k I h q kk => ?_⟩
  have lay : ∀ {vs : List V} {ds : List D}, DtAll X.K F vs ds → Q (.tuple ds) → ∀ z, H z = none → k (.ref z) (upd H z (.tup vs)) := fun {vs ds} r q z hz =>
    kk _ _ _ _ (I.new1 hz (fun ps y => by cases y)) (same_upd (I.f_none hz)) (Kp.of (same_upd hz)) (.tup (.inl (.inl upd_same)) (dps_mono (same_upd (I.f_none hz)) r)) q
  rcases h with h | ⟨a, vs, ds, rfl, rfl, e3, e4, e5⟩
  · cases h with
    | lst h1 h2 => exact ⟨_, _, rfl, .inl ⟨I.sub.seq h1, lay h2 q⟩⟩
    | tup h1 h2 => exact ⟨_, _, rfl, .inr ⟨same_sqT I.sub h1, kk F _ _ H I (Same.refl F) Kp.refl (.tup h1 h2) q⟩⟩
    | _ => exact q.elim
  · exact ⟨_, _, rfl, .inl ⟨.inl (.inl e4), lay e5 q⟩⟩
end
section
theorem cx_none {P : Program} : ∀ (w : World) (H : Hp) (s : Shared) (e : Value) (s' : Shared), L2N.CX P w [] H s (fun _ _ _ => False) e s' → False := fun _ _ _ _ _ h => by
  obtain ⟨_, _, _, _, _, _, _, _, _, _, _, _, z⟩ := h
  exact z
theorem fnok_false {P : Program} {w : World} {K : PySem.W.Frag} {mg : Str → Option Value} {base : Heap} {k : Nat} {f : Addr} {fd : FuncData} {ps : List Str} {L : Lw} : FnOk P w K mg base (L2N.CX P w) k f fd ps (Spf K L fun _ _ _ => False) :=
  ⟨fun vs H Q E ⟨_, _, _, _, _, _, _, z, _⟩ => z.elim, fun A outer s H args us vs Q E _ _ _ _ ⟨_, _, _, _, _, _, _, z, _⟩ => z.elim⟩
end
/-! ### the readings unfold where the slots are known -/
section
variable {c : Cel} {s : Sl} {E : En} {Q : D → Prop} {R : Value → Prop}
theorem u_seq {w w' : Ws} : wSeq w w' (c :: s) E = w (c :: s) { E with nx := fun s' => w' s' E } := rfl
theorem u_next : wNext (c :: s) E = E.nx (c :: s) := rfl
theorem u_drop {wa : We} : wDrop wa (c :: s) E = wa (c :: s) (fun _ => E.nx (c :: s)) E.ex := rfl
theorem u_ret {wa : We} : wRet wa (c :: s) E = wa (c :: s) E.rt E.ex := rfl
theorem u_retO {wl : Wl} : wRetO wl (c :: s) E = wl (c :: s) E.rn E.ex := rfl
theorem u_ifS {v : Wt} {w w' : Ws} : wIfS v w w' (c :: s) E = v (c :: s) (fun b => cond b (w (c :: s) E) (w' (c :: s) E)) E.ex := rfl
theorem u_asg {wa : We} {g : Wg} : wAsg wa g (c :: s) E = wa (c :: s) (fun d => g d (c :: s) E.nx) E.ex := rfl
theorem u_setO {i : Nat} {wl : Wl} : wSetO i wl (c :: s) E = wl (c :: s) (fun ds => E.nx ((c :: s).set i (.ow ds))) E.ex := rfl
theorem u_par {i j : Nat} {wl : Wl} : wPar i j wl (c :: s) E = wl (c :: s) (fun ds => match ds with | [d, e] => E.nx (((c :: s).set i (.fz d)).set j (.fz e)) | _ => False) E.ex := rfl
theorem u_par3 {i j l : Nat} {wl : Wl} : wPar3 i j l wl (c :: s) E = wl (c :: s) (fun ds => match ds with | [d, e, f] => E.nx ((((c :: s).set i (.fz d)).set j (.fz e)).set l (.fz f)) | _ => False) E.ex := rfl
theorem u_aug {i : Nat} {C : Int → Int → Prop} {f : Int → Int → Int} {wa : We} : wAug i C f wa (c :: s) E = (match (c :: s)[i]? with | some (.fz (.int n)) => wa (c :: s) (fun d => match d with | .int m => C n m ∧ E.nx ((c :: s).set i (.fz (.int (f n m)))) | _ => False) E.ex | _ => False) := rfl
theorem u_for {wi : Wl} {g : Wg} {w : Ws} : wFor wi g w (c :: s) E = wi (c :: s) (fun ds => wForL g w ds (c :: s) E) E.ex := rfl
theorem u_app {i : Nat} {wa : We} : wApp i wa (c :: s) E = (match (c :: s)[i]? with | some (.ow ds) => wa (c :: s) (fun d => ds.length < sizeLine ∧ E.nx ((c :: s).set i (.ow (ds ++ [d])))) E.ex | _ => False) := rfl
theorem u_fix {i : Nat} : Sl.fix (c :: s) i = (match (c :: s)[i]? with | some (.ow ds) => (c :: s).set i (.fz (.list ds)) | _ => c :: s) := rfl
theorem u_gname {i : Nat} {d : D} {Q : Sl → Prop} : wgName i d (c :: s) Q = Q ((c :: s).set i (.fz d)) := rfl
end
end FL

/-! FL10: plain facts that the readings ask for. -/
namespace FL
open PySem PySem.Spec PyProof.Rows L2
theorem rng_get {lo : Int} {n i : Nat} {d : D} (h : (rngD lo n)[i]? = some d) : d = .int (lo + i) ∧ i < n := by
  unfold rngD at h
  rw [List.getElem?_map] at h
  cases e : (List.range n)[i]? with
  | none => rw [e] at h; cases h
  | some j =>
    rw [e] at h; cases h
    have := List.getElem?_eq_some_iff.mp e
    obtain ⟨h1, h2⟩ := this
    rw [List.length_range] at h1
    rw [List.getElem_range] at h2
    subst h2
    exact ⟨rfl, h1⟩
theorem rng_get0 {n i : Nat} {d : D} (h : (rngD 0 n)[i]? = some d) : d = .int i ∧ i < n := by
  have := rng_get h
  rw [Int.zero_add] at this
  exact this
theorem rng_len {lo : Int} {n : Nat} : (rngD lo n).length = n := by simp [rngD]
theorem snoc_int {ms : List Int} {n : Int} : ms.map PyData.int ++ [.int n] = (ms ++ [n]).map .int := by simp
theorem ix_nat {ds : List D} {j : Nat} {Q : D → Prop} {d : D} (hj : ds[j]? = some d) (hq : Q d) : ∃ d, atI ds (j : Int) = some d ∧ Q d := ⟨d, atI_nat hj, hq⟩
theorem ix_int {ds : List D} {i : Int} {Q : D → Prop} {d : D} (h0 : 0 ≤ i) (hj : ds[i.toNat]? = some d) (hq : Q d) : ∃ d, atI ds i = some d ∧ Q d :=
  ⟨d, by have := atI_nat hj; rwa [Int.toNat_of_nonneg h0] at this, hq⟩
theorem ix_last {ds : List D} {Q : D → Prop} {d : D} (hj : ds.getLast? = some d) (hq : Q d) : ∃ d, atI ds (-1) = some d ∧ Q d := by
  obtain ⟨ys, rfl⟩ := List.getLast?_eq_some_iff.mp hj
  exact ⟨d, atI_last _ _, hq⟩
theorem ix_two {a b v : Int} {Q : D → Prop} (h0 : 0 ≤ v) (h1 : v < 2) (h : ∀ c : Int, c = a ∨ c = b → Q (.int c)) : ∃ d, atI [PyData.int a, .int b] v = some d ∧ Q d := by
  rcases (show v = 0 ∨ v = 1 by omega) with rfl | rfl
  · exact ⟨_, rfl, h a (.inl rfl)⟩
  · exact ⟨_, rfl, h b (.inr rfl)⟩
theorem rg_len {n : Nat} (h : n ≤ sizeLine) : RgI (n : Int) := by
  have : sizeLine ≤ 2 ^ 61 := by decide
  exact ⟨by omega, by omega⟩
theorem cond_dec {p : Prop} [Decidable p] {A B : Prop} : cond (decide p) A B = ((p → A) ∧ (¬ p → B)) := by
  by_cases h : p <;> simp [h]
theorem cond_not {b : Bool} {A B : Prop} : cond (!b) A B = cond b B A := by cases b <;> rfl
theorem l_map1 {α β : Type} {f : α → β} {a : α} {l : List α} : List.map f (a :: l) = f a :: List.map f l := rfl
theorem l_map0 {α β : Type} {f : α → β} : List.map f [] = [] := rfl
theorem b_nt : (!true) = false := rfl
theorem b_nf : (!false) = true := rfl
theorem c_t {A B : Prop} : cond true A B = A := rfl
theorem c_f {A B : Prop} : cond false A B = B := rfl
theorem cond_of {b : Bool} {A B : Prop} (h1 : b = true → A) (h2 : b = false → B) : cond b A B := by
  cases b with
  | true => exact h1 rfl
  | false => exact h2 rfl
theorem cond_t {b : Bool} {A B : Prop} (e : b = true) (h : A) : cond b A B := by subst e; exact h
theorem cond_f {b : Bool} {A B : Prop} (e : b = false) (h : B) : cond b A B := by subst e; exact h
theorem mem_rng {n : Nat} {d : D} (h : d ∈ rngD 0 n) : ∃ k : Nat, k < n ∧ d = .int (k : Int) := by
  obtain ⟨i, hi⟩ := List.getElem?_of_mem h
  obtain ⟨e, hk⟩ := rng_get0 hi
  exact ⟨i, hk, e⟩
theorem ix0 {x : D} {xs : List D} {Q : D → Prop} : (∃ d, atI (x :: xs) 0 = some d ∧ Q d) = Q x := propext ⟨fun ⟨d, e, q⟩ => by
  rw [show atI (x :: xs) 0 = some x from atI_nat (j := 0) rfl] at e; cases e; exact q, fun q => ⟨x, atI_nat (j := 0) rfl, q⟩⟩
theorem ix1 {x y : D} {xs : List D} {Q : D → Prop} : (∃ d, atI (x :: y :: xs) 1 = some d ∧ Q d) = Q y := propext ⟨fun ⟨d, e, q⟩ => by
  rw [show atI (x :: y :: xs) 1 = some y from atI_nat (j := 1) rfl] at e; cases e; exact q, fun q => ⟨y, atI_nat (j := 1) rfl, q⟩⟩
theorem ix2 {x y z : D} {xs : List D} {Q : D → Prop} : (∃ d, atI (x :: y :: z :: xs) 2 = some d ∧ Q d) = Q z := propext ⟨fun ⟨d, e, q⟩ => by
  rw [show atI (x :: y :: z :: xs) 2 = some z from atI_nat (j := 2) rfl] at e; cases e; exact q, fun q => ⟨z, atI_nat (j := 2) rfl, q⟩⟩
theorem ix3 {x y z u : D} {xs : List D} {Q : D → Prop} : (∃ d, atI (x :: y :: z :: u :: xs) 3 = some d ∧ Q d) = Q u := propext ⟨fun ⟨d, e, q⟩ => by
  rw [show atI (x :: y :: z :: u :: xs) 3 = some u from atI_nat (j := 3) rfl] at e; cases e; exact q, fun q => ⟨u, atI_nat (j := 3) rfl, q⟩⟩
theorem ix4 {x y z u v : D} {xs : List D} {Q : D → Prop} : (∃ d, atI (x :: y :: z :: u :: v :: xs) 4 = some d ∧ Q d) = Q v := propext ⟨fun ⟨d, e, q⟩ => by
  rw [show atI (x :: y :: z :: u :: v :: xs) 4 = some v from atI_nat (j := 4) rfl] at e; cases e; exact q, fun q => ⟨v, atI_nat (j := 4) rfl, q⟩⟩
/-! == -/
section
variable {a b : Int} {x y : Str} {p q : Bool}
theorem ok_ii : EqOk (.int a) (.int b) = True := eq_true (.inl rfl)
theorem ok_bb : EqOk (.bool p) (.bool q) = True := eq_true (.inl rfl)
theorem ok_ss : EqOk (.str x) (.str y) = True := eq_true (.inl rfl)
theorem ok_nn : EqOk .none .none = True := eq_true (.inl rfl)
theorem ok_ni : EqOk .none (.int a) = True := eq_true (.inl rfl)
theorem ok_in : EqOk (.int a) .none = True := eq_true (.inl rfl)
theorem ok_nb : EqOk .none (.bool p) = True := eq_true (.inl rfl)
theorem ok_bn : EqOk (.bool p) .none = True := eq_true (.inl rfl)
theorem ok_ns : EqOk .none (.str x) = True := eq_true (.inl rfl)
theorem ok_sn : EqOk (.str x) .none = True := eq_true (.inl rfl)
theorem ok_is : EqOk (.int a) (.str x) = True := eq_true (.inl rfl)
theorem ok_si : EqOk (.str x) (.int a) = True := eq_true (.inl rfl)
theorem ok_bs : EqOk (.bool p) (.str x) = True := eq_true (.inl rfl)
theorem ok_sb : EqOk (.str x) (.bool p) = True := eq_true (.inl rfl)
theorem ev_ii : PyData.eqv (.int a) (.int b) = decide (a = b) := by rw [PyData.eqv]; rfl
theorem ev_bb : PyData.eqv (.bool p) (.bool q) = decide (p = q) := by rw [PyData.eqv]; cases p <;> cases q <;> rfl
theorem ev_ss : PyData.eqv (.str x) (.str y) = decide (x = y) := by rw [PyData.eqv]; rfl
theorem ev_nn : PyData.eqv .none .none = true := by rw [PyData.eqv]
theorem ev_ni : PyData.eqv .none (.int a) = false := by simp [PyData.eqv]
theorem ev_in : PyData.eqv (.int a) .none = false := by simp [PyData.eqv]
theorem ev_nb : PyData.eqv .none (.bool p) = false := by simp [PyData.eqv]
theorem ev_bn : PyData.eqv (.bool p) .none = false := by simp [PyData.eqv]
theorem ev_ns : PyData.eqv .none (.str x) = false := by simp [PyData.eqv]
theorem ev_sn : PyData.eqv (.str x) .none = false := by simp [PyData.eqv]
theorem ev_is : PyData.eqv (.int a) (.str x) = false := by simp [PyData.eqv]
theorem ev_si : PyData.eqv (.str x) (.int a) = false := by simp [PyData.eqv]
theorem ev_bs : PyData.eqv (.bool p) (.str x) = false := by simp [PyData.eqv]
theorem ev_sb : PyData.eqv (.str x) (.bool p) = false := by simp [PyData.eqv]
end
end FL

/-! FL11: list comprehensions by data. -/
namespace FL
open PySem PySem.Spec PyProof.Rows L2
/-- slots forgotten -/
def wipeS (s : Sl) : List Nat → Sl
  | [] => s
  | v :: vs => (wipeS s vs).set v .no
/-- own lists only looked at -/
def lkC : Cel → Cel
  | .ow ds => .lk ds
  | c => c
def lkS (s : Sl) : Sl := s.map lkC
section
variable {K : PySem.W.Frag} {L : Lw} {b : Beg} {F F' : Hp} {s : Sl} {σ : L2.St} {H H' : Hp}
theorem Rel.wipe (R : Rel K L b F s σ H) : ∀ vs : List Nat, Rel K L b F (wipeS s vs) (L2.wipe σ vs) H
  | [] => R
  | v :: vs => (Rel.wipe R vs).drop1
/-- a block begins: a ground of its own, own lists only looked at -/
theorem Rel.inner (R : Rel K L b F s σ H) : Rel K L ⟨H, F, b.dr⟩ F (lkS s) σ H :=
  { R.toGrd.enter with
    len := by unfold lkS; rw [List.length_map]; exact R.len
    slot := fun i c e => by
      unfold lkS at e
      rw [List.getElem?_map] at e
      cases q : s[i]? with
      | none => rw [q] at e; cases e
      | some u =>
        rw [q] at e; cases e
        have x := R.slot i u q
        cases u with
        | no => trivial
        | fz d => exact x
        | dr => exact x
        | px _ => exact x
        | lk ds =>
          obtain ⟨a, vs, e, h0, hd, hh, hs⟩ := x
          exact ⟨a, vs, e, by show H a ≠ none; rw [hh]; simp, hd, hh, hs⟩
        | ow ds =>
          obtain ⟨a, vs, e, h0, hd, hf, hh, hs⟩ := x
          exact ⟨a, vs, e, by show H a ≠ none; rw [hh]; simp, hd, hh, hs⟩
    apart := fun i j a n h1 => by
      exfalso
      unfold lkS at h1
      rw [List.getElem?_map] at h1
      cases q : s[i]? with
      | none => rw [q] at h1; exact h1
      | some u => rw [q] at h1; cases u <;> exact h1 }
/-- an object that is told nowhere is changed -/
theorem Rel.poke {p : Addr} {o : HO} {vs : List V} (R : Rel K L b F s σ H) (h0 : b.H0 p = none) (hd : b.dr ≠ some p) (hf : F p = none) (hn : ∀ (i : Nat), isOw s[i]? → σ[i]? ≠ some (some (.ref p)))
    (hp : H p = some (.lst vs)) : Rel K L b F s σ (upd H p o) :=
  { sub := fun a x h => by
      have z : a ≠ p := fun z => by subst z; rw [hf] at h; cases h
      rw [upd_ne z]; exact R.sub a x h
    old := R.old
    new := R.new
    keep := fun a x h d t => by
      have z : a ≠ p := fun z => by subst z; rw [h0] at h; cases h
      rw [upd_ne z]; exact R.keep a x h d t
    live := fun a h => R.live a (by
      by_cases z : a = p
      · subst z; rw [upd_same] at h; cases h
      · rw [upd_ne z] at h; exact h)
    drw := fun a h => by
      have z : a ≠ p := fun z => hd (by rw [← z]; exact h)
      obtain ⟨h1, us, ds, h2, h3⟩ := R.drw a h
      exact ⟨h1, us, ds, by rw [upd_ne z]; exact h2, h3⟩
    tab := fun P h => by
      obtain ⟨ps, e, t⟩ := R.tab P h
      have z : P ≠ p := fun z => by subst z; rw [hp] at e; cases e
      exact ⟨ps, by rw [upd_ne z]; exact e, t⟩
    ntb := R.ntb
    len := R.len
    slot := fun i c e => by
      have x := R.slot i c e
      cases c with
      | no => trivial
      | fz d => exact x
      | dr => exact x
      | px _ => exact x
      | lk ds =>
        obtain ⟨a, us, e1, g0, gd, gh, gs⟩ := x
        exact ⟨a, us, e1, g0, gd, by rw [upd_ne (fun z => g0 (by rw [z]; exact h0))]; exact gh, gs⟩
      | ow ds =>
        obtain ⟨a, us, e1, g0, gd, gf, gh, gs⟩ := x
        have z : a ≠ p := fun z => by
          have hi : i < σ.length := by rw [R.len]; exact (List.getElem?_eq_some_iff.mp e).1
          rw [List.getD_eq_getElem?_getD, List.getElem?_eq_getElem hi] at e1
          exact hn i (by rw [e]; trivial) (by rw [List.getElem?_eq_getElem hi, ← z]; exact congrArg some e1)
        exact ⟨a, us, e1, g0, gd, gf, by rw [upd_ne z]; exact gh, gs⟩
    apart := R.apart }
theorem wipeS_ow {vs : List Nat} {i : Nat} (h : isOw (wipeS s vs)[i]?) : isOw s[i]? ∧ i ∉ vs := by
  induction vs with
  | nil => exact ⟨h, by simp⟩
  | cons v vs ih =>
    unfold wipeS at h
    rw [List.getElem?_set] at h
    split at h
    · split at h <;> exact h.elim
    · rename_i z
      exact ⟨(ih h).1, by simp only [List.mem_cons, not_or]; exact ⟨fun e => z e.symm, (ih h).2⟩⟩
end
section
variable (X : Cx) (L : Lw) (W : WX)
/-- a target that only writes the slots vs -/
structure FGc (vs : List Nat) (tg : Expr) (g : TG) (w : Wg) : Prop extends FG X L tg g w where
  only : ∀ v σ H k k', g v σ H k → (∀ σ' H', L2.wipe σ' vs = L2.wipe σ vs → k σ' H' → k' σ' H') → g v σ H k'
structure FGcs (vs : List Nat) (tgs : List Expr) (g : TGs) (w : List D → Sl → (Sl → Prop) → Prop) : Prop extends FGs X L tgs g w where
  only : ∀ us σ H k k', g us σ H k → (∀ σ' H', L2.wipe σ' vs = L2.wipe σ vs → k σ' H' → k' σ' H') → g us σ H k'
structure FTs (es : List Expr) (t : TT) (w : Wt) : Prop where
  pe : PTs X es t
  snd : SndT X.K L W t w
end
section
variable {X : Cx} {L : Lw} {W : WX} {pos p : Pos} {vs : List Nat} {tg e : Expr} {tgs : List Expr} {g : TG} {gs : TGs} {wg : Wg} {wgs : List D → Sl → (Sl → Prop) → Prop} {tA : TT} {vA : Wt}
theorem wipe_set {σ : L2.St} {i : Nat} {x : Option V} : ∀ {vs : List Nat}, i ∈ vs → L2.wipe (σ.set i x) vs = L2.wipe σ vs
  | [], h => by cases h
  | v :: vs, h => by
    unfold L2.wipe
    rcases List.mem_cons.mp h with rfl | h
    · by_cases q : i ∈ vs
      · rw [wipe_set q]
      · have e : ∀ us : List Nat, i ∉ us → L2.wipe (σ.set i x) us = (L2.wipe σ us).set i x := by
          intro us
          induction us with
          | nil => intro _; rfl
          | cons u us ih =>
            intro hu
            rw [List.mem_cons, not_or] at hu
            unfold L2.wipe
            rw [ih hu.2, List.set_comm _ _ hu.1]
        rw [e vs q, List.set_set]
    · rw [wipe_set h]
theorem wipe_idem {σ : L2.St} {vs : List Nat} : ∀ us : List Nat, (∀ u ∈ us, u ∈ vs) → L2.wipe (L2.wipe σ us) vs = L2.wipe σ vs
  | [], _ => rfl
  | u :: us, h => by
    show L2.wipe ((L2.wipe σ us).set u none) vs = _
    rw [wipe_set (h u List.mem_cons_self)]
    exact wipe_idem us fun w z => h w (List.mem_cons_of_mem _ z)
theorem fc_name {i : Nat} {x : Str} (hN : X.N.Nodup) (hv : i ∈ vs) (hi : X.N[i]? = some x := by rfl) (hx : Loc X.env.scope x := by first | exact Or.inl rfl | exact Or.inr rfl) (hf : X.fn x = true ∨ X.env.scope.names.lookup x = some .local := by first | exact .inl rfl | exact .inr rfl | assumption) : FGc X L vs (.Name x pos) (gName i) (wgName i) :=
  { fg_name hN hi hx hf with only := fun v σ H k k' h q => q _ _ (wipe_set hv) h }
theorem fcs_nil : FGcs X L vs [] gNil wgNil := { fgs_nil with only := fun us σ H k k' ⟨e, h⟩ q => ⟨e, q _ _ rfl h⟩ }
theorem fcs_cons (h1 : FGc X L vs tg g wg) (h2 : FGcs X L vs tgs gs wgs) (he : (assignEach (tg :: tgs) X.env).map (·.2) = assign tg X.env :: (assignEach tgs X.env).map (·.2) := by rfl) : FGcs X L vs (tg :: tgs) (gCons g gs) (wgCons wg wgs) :=
  { fgs_cons h1.toFG h2.toFGs he with only := fun us σ H k k' ⟨v, r, e, h⟩ q => ⟨v, r, e, h1.only v σ H _ _ h fun σ1 H1 e1 h1 => h2.only r σ1 H1 k k' h1 fun σ2 H2 e2 => q σ2 H2 (e2.trans e1)⟩ }
theorem fc_tup {k n : Nat} (hc : X.calm = true) (h : FGcs X L vs tgs gs wgs) (hn : (assignEach tgs X.env).length = n := by rfl) (hst : (assignEach tgs X.env).findIdx? (·.1) = none := by rfl) : FGc X L vs (.Tuple tgs k pos) (gTup X.K n gs) (wgTup n wgs) :=
  { fg_tup hc h.toFGs hn hst with only := fun v σ H k k' ⟨a, xs, e, h1, h2, h3⟩ q => ⟨a, xs, e, h1, h2, h.only xs σ H k k' h3 q⟩ }
def wYes : Wt := fun _ Q _ => Q true
theorem fts_nil : FTs X L W [] tYes wYes := ⟨pts_nil, fun b F s σ H Q R k I h hx kk => kk F true H I (Same.refl F) Kp.refl h⟩
theorem fts_one (h : FT X L W e tA vA) : FTs X L W [e] tA vA := ⟨pts_one h.pe, h.snd⟩
theorem FE.cast {L : Lw} {W : WX} {t t' : TE} {w : We} (h : FE X L W e t' w) (q : t' = t) : FE X L W e t w := q ▸ h
theorem FTs.cast {L : Lw} {W : WX} {es : List Expr} {t t' : TT} {w : Wt} (h : FTs X L W es t' w) (q : t' = t) : FTs X L W es t w := q ▸ h
theorem FGc.cast {L : Lw} {t t' : TG} {w : Wg} (h : FGc X L vs tg t' w) (q : t' = t) : FGc X L vs tg t w := q ▸ h
/-- what a comprehension's turns build -/
def wLcL (wg : Wg) (wt : Wt) (we : We) (vs : List Nat) (ds : List D) : Sl → (List D → Prop) → Prop := fun s Q => ∃ I : Nat → List D → Prop, I 0 [] ∧
  (∀ i d acc, ds[i]? = some d → I i acc → wg d (wipeS (lkS s) vs) fun s2 => wt s2 (fun c => cond c (we s2 (fun y => acc.length < sizeLine ∧ I (i + 1) (acc ++ [y])) fun _ => False) (I (i + 1) acc)) fun _ => False) ∧
  ∀ acc, I ds.length acc → Q acc
def wLc (wl : Wl) (wg : Wg) (wt : Wt) (we : We) (vs : List Nat) : Wl := fun s Q R => wl s (fun ds => wLcL wg wt we vs ds s Q) R
abbrev WF : WX := fun _ _ _ _ => False
def KpD (b : Beg) (p : Addr) (H H' : Hp) : Prop := ∀ a o, a ≠ p → H a = some o → b.dr ≠ some a → (∀ ps, o ≠ .tbl ps) → H' a = some o
section
variable {iter elt : Expr} {ifs : List Expr} {scope : Scope} {own : List (Str × Nat)} {wi : TI} {tt : TT} {te : TE} {wl : Wl} {wt : Wt} {we : We}
theorem snd_lc (hi : SndI X.K L W wi wl) (hg : ∃ X' tg, FGc X' L vs tg g wg ∧ X'.K = X.K) (ht : SndT X.K L WF tt wt) (he : Snd X.K L WF te we) : SndN X.K L W (tLc wi g tt te vs) (wLc wl wg wt we vs) := by
  obtain ⟨X', tg', hg, hK⟩ := hg
  intro b F s σ H Q R k I h hx kk
  refine hi b F s σ H _ R _ I h hx fun F1 ds J H1 I1 m1 k1 wd q D hD => ?_
  obtain ⟨Iv, i0, ist, ie⟩ := q
  have h0 := I1.live D hD
  have hd := I1.dr_some hD
  have hn : ∀ (i : Nat), isOw s[i]? → σ[i]? ≠ some (some (.ref D)) := fun i y => I1.ow_some hD i y
  refine ⟨fun i m H2 => m = ds.length - i ∧ i ≤ ds.length ∧ ∃ F2 us acc, Rel X.K L b F2 s σ H2 ∧ Same F1 F2 ∧ KpD b D H1 H2 ∧ F2 D = none ∧ H2 D = some (.lst us) ∧ DtAll X.K F2 us acc ∧ Iv i acc,
    ⟨_, rfl, Nat.zero_le _, F1, [], [], I1.lay hD, Same.refl F1, fun a o z e d t => by rw [upd_ne z]; exact e, I1.f_none hD, upd_same, .nil, i0⟩, ?_⟩
  rintro i m H2 ⟨rfl, hle, F2, us, acc, I2, m2, k2, hf, hH, r, iv⟩
  have Ij := I2.inner
  obtain ⟨hgo, hstop, hy⟩ := wd _ F2 _ σ H2 Ij m2 trivial
  by_cases hi : i < ds.length
  · refine .inr ⟨hgo i hi, fun H3 => i + 1 ≤ ds.length ∧ ∃ F3 us acc, Rel X.K L b F3 s σ H3 ∧ Same F1 F3 ∧ KpD b D H1 H3 ∧ F3 D = none ∧ H3 D = some (.lst us) ∧ DtAll X.K F3 us acc ∧ Iv (i + 1) acc,
      fun H3 ⟨z1, z2⟩ => ⟨ds.length - (i + 1), by omega, rfl, z1, z2⟩, fun x H3 hyy => ?_⟩
    obtain ⟨F3, d, e3, I3, m3, k3, r3⟩ := hy i x H3 hi hyy
    have q := ist i d acc e3 iv
    refine hg.only x _ H3 _ _ (hg.snd ⟨H2, F2, b.dr⟩ F3 _ _ H3 x d _ (fun σ' H' => tt σ' H' fun b1 H3 => if b1 = true then te σ' H3 fun y H4 => ∃ acc, H4 D = some (.lst acc) ∧ acc.length < sizeLine ∧ (i + 1 ≤ ds.length ∧ ∃ F3 us acc', Rel X.K L b F3 s σ (upd H4 D (.lst (acc ++ [y]))) ∧ Same F1 F3 ∧ KpD b D H1 (upd H4 D (.lst (acc ++ [y]))) ∧ F3 D = none ∧ (upd H4 D (.lst (acc ++ [y]))) D = some (.lst us) ∧ DtAll X.K F3 us acc' ∧ Iv (i + 1) acc') else (i + 1 ≤ ds.length ∧ ∃ F3 us acc, Rel X.K L b F3 s σ H3 ∧ Same F1 F3 ∧ KpD b D H1 H3 ∧ F3 D = none ∧ H3 D = some (.lst us) ∧ DtAll X.K F3 us acc ∧ Iv (i + 1) acc))
      (by rw [hK]; exact I3.wipe vs) (by rw [hK]; exact r3) q fun F4 s4 σ4 H4 I4 m4 q4 => ?_) fun σ' H' e q => ⟨e.trans (wipe_idem vs fun _ z => z), q⟩
    rw [hK] at I4
    refine ht _ F4 s4 σ4 H4 _ (fun _ => False) _ I4 q4 (fun _ _ _ _ _ z => z.elim) fun F5 c H5 I5 m5 k5 q5 => ?_
    -- back to the ground around
    have back : ∀ {F6 : Hp} {s6 : Sl} {σ6 : L2.St} {H6 : Hp}, Rel X.K L ⟨H2, F2, b.dr⟩ F6 s6 σ6 H6 → Same F2 F6 → Rel X.K L b F6 s σ H6 ∧ KpD b D H1 H6 ∧ F6 D = none ∧ H6 D = some (.lst us) ∧ DtAll X.K F6 us acc := fun {F6 s6 σ6 H6} I6 m6 => by
      have g := I6.toGrd
      refine ⟨I2.back g, fun a o z e d t => g.keep a o (k2 a o z e d t) d t, ?_, g.keep D _ hH hd (fun ps z => by cases z), dps_mono m6 r⟩
      cases z : F6 D with
      | none => rfl
      | some o =>
        rcases g.new D o z with y | y
        · rw [show F2 D = some o from y] at hf; cases hf
        · rw [show H2 D = none from y] at hH; cases hH
    have m25 : Same F2 F5 := m3.trans (m4.trans m5)
    cases c with
    | false =>
      rw [if_neg Bool.false_ne_true]
      obtain ⟨I6, k6, f6, h6, r6⟩ := back I5 m25
      exact ⟨hi, F5, us, acc, I6, m2.trans m25, k6, f6, h6, r6, q5⟩
    | true =>
      rw [if_pos rfl]
      refine he _ F5 s4 σ4 H5 _ (fun _ => False) _ I5 q5 (fun _ _ _ _ _ z => z.elim) fun F6 y v H6 I6 m6 k6 r6 q6 => ?_
      obtain ⟨I7, k7, f7, h7, r7⟩ := back I6 (m25.trans m6)
      refine ⟨us, h7, by rw [dps_len r7]; exact q6.1, hi, F6, _, _, I7.poke h0 hd f7 hn h7, m2.trans (m25.trans m6), fun a o z e d t => by rw [upd_ne z]; exact k7 a o z e d t, f7, upd_same, dps_app r7 (dps_one r6), q6.2⟩
  · have e : i = ds.length := by omega
    subst e
    refine .inl ⟨hstop, kk F2 acc D us H2 I2 (m1.trans m2) (fun a o e d t => k2 a o (fun z => ?_) (k1 a o e d t) d t) ⟨h0, hd, hf, hn⟩ hH r (ie acc iv)⟩
    subst z
    rw [k1 a o e d t] at hD
    cases hD
theorem fn_lc (hc : X.calm = true) (hN : X.N.Nodup) (hi : FI X L W tg iter wi wl) (ok : BlkOk X.N X.env.scope scope own)
    (hg : ∀ (s : Shared) (H : Hp) (C : Addr) (cl : List (Str × Addr)) (fp : List Addr), FGc (X.blk s H scope (compEnvC scope cl C X.env) fp) L (own.map (·.2)) tg g wg) (ht : ∀ (s : Shared) (H : Hp) (C : Addr) (cl : List (Str × Addr)) (fp : List Addr), FTs (X.blk s H scope (compEnvC scope cl C X.env) fp) L WF ifs tt wt)
    (he : ∀ (s : Shared) (H : Hp) (C : Addr) (cl : List (Str × Addr)) (fp : List Addr), FE (X.blk s H scope (compEnvC scope cl C X.env) fp) L WF elt te we) (hs : ∀ x, foldedSetIterable iter X.env x = pure x := by intro _; rfl) :
    FN X L W (.ListComp elt [⟨tg, iter, ifs, 0⟩] scope pos) (tLc wi g tt te (own.map (·.2))) (wLc wl wg wt we (own.map (·.2))) :=
  ⟨pe_lc hc hN hi.pe ok (fun s H C cl fp => (hg s H C cl fp).pe) (fun s H C cl fp => (ht s H C cl fp).pe) (fun s H C cl fp => (he s H C cl fp).pe) hs,
    snd_lc hi.snd ⟨_, _, hg X.s_0 X.H_0 0 [] [], rfl⟩ (ht X.s_0 X.H_0 0 [] []).snd (he X.s_0 X.H_0 0 [] []).snd⟩
/-- name = [..] on one line -/
def wSetL (i : Nat) (wl : Wl) : Ws := fun s E => wl s (fun ds => E.nx (s.set i (.fz (.list ds)))) E.ex
theorem fs_setLcO {i : Nat} {y : Str} {py spos : Pos} (hc : X.calm = true) (hN : X.N.Nodup) (hi : FI X L W tg iter wi wl) (ok : BlkOk X.N X.env.scope scope own)
    (hg : ∀ (s : Shared) (H : Hp) (C : Addr) (cl : List (Str × Addr)) (fp : List Addr), FGc (X.blk s H scope (compEnvC scope cl C X.env) fp) L (own.map (·.2)) tg g wg) (ht : ∀ (s : Shared) (H : Hp) (C : Addr) (cl : List (Str × Addr)) (fp : List Addr), FTs (X.blk s H scope (compEnvC scope cl C X.env) fp) L WF ifs tt wt)
    (he : ∀ (s : Shared) (H : Hp) (C : Addr) (cl : List (Str × Addr)) (fp : List Addr), FE (X.blk s H scope (compEnvC scope cl C X.env) fp) L WF elt te we) (hy : X.N[i]? = some y := by rfl) (hyl : X.env.scope.names.lookup y = some .local := by rfl)
    (hsw : swapsWith (.ListComp elt [⟨tg, iter, ifs, 0⟩] scope pos) (some (.Name y py)) spos.line X.env = pure true := by rfl) (hs : ∀ x, foldedSetIterable iter X.env x = pure x := by intro _; rfl) :
    FS X L W (.Assign [.Name y py] (.ListComp elt [⟨tg, iter, ifs, 0⟩] scope pos) spos) (tAsg (tLc wi g tt te (own.map (·.2))) (gName i)) (wSetO i (wLc wl wg wt we (own.map (·.2)))) := by
  refine ⟨ps_setLc hc hN hy hyl hsw hi.pe ok (fun s H C cl fp => (hg s H C cl fp).pe) (fun s H C cl fp => (ht s H C cl fp).pe) (fun s H C cl fp => (he s H C cl fp).pe) hs, fun b F s σ H E D' I h ok' => ?_⟩
  exact snd_lc hi.snd ⟨_, _, hg X.s_0 X.H_0 0 [] [], rfl⟩ (ht X.s_0 X.H_0 0 [] []).snd (he X.s_0 X.H_0 0 [] []).snd b F s σ H _ E.ex _ I h ok'.exw fun F1 ds q vs H1 I1 m1 k1 fr e1 r1 z => ok'.nx F1 _ _ H1 (I1.putO fr.h0 fr.hd fr.hf fr.hn e1 r1) m1 z
theorem fs_setLc {i : Nat} {y : Str} {py spos : Pos} (hc : X.calm = true) (hN : X.N.Nodup) (hi : FI X L W tg iter wi wl) (ok : BlkOk X.N X.env.scope scope own)
    (hg : ∀ (s : Shared) (H : Hp) (C : Addr) (cl : List (Str × Addr)) (fp : List Addr), FGc (X.blk s H scope (compEnvC scope cl C X.env) fp) L (own.map (·.2)) tg g wg) (ht : ∀ (s : Shared) (H : Hp) (C : Addr) (cl : List (Str × Addr)) (fp : List Addr), FTs (X.blk s H scope (compEnvC scope cl C X.env) fp) L WF ifs tt wt)
    (he : ∀ (s : Shared) (H : Hp) (C : Addr) (cl : List (Str × Addr)) (fp : List Addr), FE (X.blk s H scope (compEnvC scope cl C X.env) fp) L WF elt te we) (hy : X.N[i]? = some y := by rfl) (hyl : X.env.scope.names.lookup y = some .local := by rfl)
    (hsw : swapsWith (.ListComp elt [⟨tg, iter, ifs, 0⟩] scope pos) (some (.Name y py)) spos.line X.env = pure true := by rfl) (hs : ∀ x, foldedSetIterable iter X.env x = pure x := by intro _; rfl) :
    FS X L W (.Assign [.Name y py] (.ListComp elt [⟨tg, iter, ifs, 0⟩] scope pos) spos) (tAsg (tLc wi g tt te (own.map (·.2))) (gName i)) (wSetL i (wLc wl wg wt we (own.map (·.2)))) := by
  refine ⟨ps_setLc hc hN hy hyl hsw hi.pe ok (fun s H C cl fp => (hg s H C cl fp).pe) (fun s H C cl fp => (ht s H C cl fp).pe) (fun s H C cl fp => (he s H C cl fp).pe) hs, fun b F s σ H E D' I h ok' => ?_⟩
  refine snd_lc hi.snd ⟨_, _, hg X.s_0 X.H_0 0 [] [], rfl⟩ (ht X.s_0 X.H_0 0 [] []).snd (he X.s_0 X.H_0 0 [] []).snd b F s σ H _ E.ex _ I h ok'.exw fun F1 ds q vs H1 I1 m1 k1 fr e1 r1 z => ?_
  have I2 := I1.tell fr.h0 fr.hd e1 fr.hf (fun ps z => by cases z) fr.hn
  exact ok'.nx _ _ _ H1 (I2.put (.lst (.inl (.inl upd_same)) (dps_mono (same_upd fr.hf) r1))) (m1.trans (same_upd fr.hf)) z
theorem takes_wf {X : Cx} : L2N.Takes X WF := fun u s' ⟨_, _, _, _, _, _, _, _, _, _, _, _, _, _, _, _, z⟩ => z.elim
end
end
end FL

/-! FL12: all, any of a generator expression: the run of its body under the hand layer's state. -/
namespace FLG
open PySem PySem.Spec PyProof.Rows L2 GenW
/-- the context of a generator expression's body -/
abbrev gbx (X : Cx) (Ag : Around) (s : Shared) (H : Hp) (scope : Scope) (cenv : Env) (fp : List Addr) (pn : List (Addr × Obj)) : Cx :=
  { X with A := Ag, s_0 := s, H_0 := H, env := cenv, outer := X.stack, stack := cenv :: X.stack, ex := fp, fn := fun x => scope.names.lookup x == some .cell, pn := pn, xe := fun _ _ => False }
section
variable {X : Cx} {pins : List (Addr × Obj)} {σ : L2.St} {H : Hp} {s : Shared}
theorem gen_start {scope : Scope} {own : List (Str × Nat)} {fp : List Addr} {Ag : Around} {code : Value} {it : Value} {h' : Heap} {go : Obj} {s2 : Shared} {fo : Obj} (I : Inv X pins σ H s) (ok : BlkOk X.N X.env.scope scope own) (hN : X.N.Nodup) (hcell : ∀ y ∈ scope.names, y.2 ≠ .cell)
    (hfp : ∀ b ∈ fp, FpOk X pins H b ∧ b < s.heap.objs.size) (hd : Ag.handled = none) (hf : Ag.frames = some (genEnv scope (cloFrom X.env.cells scope.names []) s.heap.objs.size code builtinsNs X.env :: X.stack))
    (hn : h'.Ns s.heap.objs.size fun y => if y = ".0" then some it else none) (hs : Heap.SameBut s.heap.objs.size (s.heap.push fo) h') (he : s2.heap = h'.push go) (hos : s2.os = s.os) (hg : AllBare s2.gens) (hgo : ∀ v, go.data ≠ .cell v) (hgf : (h'.push go).get? h'.objs.size = some go) :
    Inv (gbx X Ag s H scope (genEnv scope (cloFrom X.env.cells scope.names []) s.heap.objs.size code builtinsNs X.env) fp [(h'.objs.size, go)]) [] (wipe σ (own.map (·.2))) H s2 := by
  have hfree : ∀ y ∈ scope.names, y.2 = .free → ∃ c, X.env.cells.lookup y.1 = some c := fun y hy e => by
    rcases ok.free y hy e with k | k
    · exact I.ok.has _ (.inl k)
    · exact I.ok.has _ (.inr k)
  generalize hcenv : genEnv scope (cloFrom X.env.cells scope.names []) s.heap.objs.size code builtinsNs X.env = cenv at hf
  have kp : ∀ b o, s.heap.get? b = some o → s2.heap.get? b = some o := fun b o e => by
    rw [he]
    exact Heap.get?_push_of_some _ (hs.extBut b o (Nat.ne_of_lt (Heap.lt_size e)) (Heap.get?_push_of_some _ e))
  have hL : cenv.locals = s.heap.objs.size := by rw [← hcenv]; rfl
  have hcl : cenv.cells = cloFrom X.env.cells scope.names [] := by rw [← hcenv]; rfl
  have hsc : cenv.scope = scope := by rw [← hcenv]; rfl
  have cm : ∀ {y c}, cenv.cells.lookup y = some c → X.env.cells.lookup y = some c ∧ c < s.heap.objs.size := fun {y c} e => by
    rw [hcl] at e
    rcases cloFrom_mem (PySem.mem_of_lookup e) with hm | ⟨h1, rfl⟩
    · cases hm
    · obtain ⟨c, hc⟩ := hfree _ h1 rfl
      rw [hc]
      obtain ⟨w, z⟩ := I.cell _ _ hc
      exact ⟨rfl, z.lt⟩
  have look : ∀ {y}, scope.names.lookup y = some .free → ∃ c, cenv.cells.lookup y = some c ∧ X.env.cells.lookup y = some c := fun {y} hl => by
    have hy : (y, NameKind.free) ∈ scope.names := PySem.mem_of_lookup hl
    obtain ⟨c', e'⟩ := L2.mem_lookup (cloFrom_has (cells := X.env.cells) (acc := []) hy)
    rw [← hcl] at e'
    exact ⟨c', e', (cm e').1⟩
  have nocell : ∀ {y}, scope.names.lookup y ≠ some .cell := fun {y} e => hcell _ (PySem.mem_of_lookup e) rfl
  have sz : h'.objs.size = s.heap.objs.size + 1 := hs.1.trans (Heap.size_push ..)
  have okB : (gbx X Ag s H scope cenv fp [(h'.objs.size, go)]).Ok := by
    refine ⟨I.ok.mod, by show cenv.scope.kind = _; rw [hsc]; exact ok.kind, by show cenv.globals = _; rw [← hcenv]; exact I.ok.glob, by show cenv.builtins = _; rw [← hcenv]; rfl, by show s.heap.objs.size ≤ cenv.locals; rw [hL]; exact Nat.le_refl _,
      fun y z c e1 e2 => I.ok.inj y z c (cm e1).1 (cm e2).1, fun y hy => ?_, fun y c z e => ?_, fun _ => hd, hf, .inr ⟨rfl, ?_⟩, fun b hb => ⟨?_, fun y c e z => ?_⟩, I.bs, Nat.le_trans I.ok.bsz I.sz, fun b o e hb => ?_, fun b hb z => ?_, I.stack, I.stkFree⟩
    · have hy : scope.names.lookup y = some .cell ∨ scope.names.lookup y = some .free := by
        have hy : cenv.scope.names.lookup y = some .cell ∨ cenv.scope.names.lookup y = some .free := hy
        rw [hsc] at hy; exact hy
      rcases hy with hy | hy
      · exact absurd hy nocell
      · obtain ⟨c, h1, _⟩ := look hy
        exact ⟨c, h1⟩
    · have z : (scope.names.lookup y == some NameKind.cell) = true := z
      have z : scope.names.lookup y = some .cell := by simpa using z
      exact absurd z nocell
    · show cenv.frame = some cenv.locals
      rw [← hcenv]; rfl
    · show b ≠ cenv.locals
      rw [hL]; exact Nat.ne_of_lt (hfp b hb).2
    · exact (hfp b hb).1.2.2.2.2.1 y c (cm e).1 z
    · rcases (hfp b hb).1.2.2.2.1 with z | z
      · exact I.ok.noex b o e z
      · exact absurd (Nat.lt_of_lt_of_le (Heap.lt_size e) (Nat.le_trans I.ok.bsz z)) (Nat.lt_irrefl _)
    · rcases List.mem_cons.mp (I.stkSub b z) with z | z
      · exact (hfp b hb).1.2.1 z
      · exact (hfp b hb).1.2.2.1 z
  have young : s.heap.objs.size ≤ h'.objs.size := by omega
  refine ⟨okB, hos, hg, Un.kept kp, ⟨(fun y => if y = (".0" : Str) then some it else none), ?_, fun i y av e1 e2 e3 => ?_⟩, fun y c e => ?_, ?_, fun y c e => ?_, fun p hp => ?_, I.hok.kept kp, by rw [wipe_length]; exact I.len⟩
  · show Heap.Ns _ cenv.locals _
    rw [hL, he]
    exact hn.keeps fun b o e => Heap.get?_push_of_some _ e
  · obtain ⟨e2, hne⟩ := wipe_some e2
    have e3 : Vis scope y := by
      have e3 : Vis cenv.scope y := e3
      rw [hsc] at e3; exact e3
    have hfr : scope.names.lookup y = some .free := by
      rcases e3 with e3 | e3 | e3
      · rcases ok.own _ (PySem.mem_of_lookup e3) (.inl rfl) with e' | e'
        · obtain ⟨p, hp, hpy⟩ := List.mem_map.mp e'
          have e4 := ok.ix p hp
          have : p.1 = y := hpy
          rw [this] at e4
          exact absurd (List.mem_map.mpr ⟨p, hp, nodup_ix hN e4 e1⟩) hne
        · exact absurd (List.mem_of_getElem? e1) e'
      · exact absurd e3 nocell
      · exact e3
    obtain ⟨m, hn', hl⟩ := I.loc
    have hvis : Vis X.env.scope y := (ok.free _ (PySem.mem_of_lookup hfr) rfl).elim (fun k => .inr (.inl k)) (fun k => .inr (.inr k))
    obtain ⟨w, r, q⟩ := hl i y av e1 e2 hvis
    obtain ⟨c, h1, h2⟩ := look hfr
    refine ⟨w, r, .inr ⟨.inr (by show cenv.scope.names.lookup y = _; rw [hsc]; exact hfr), c, h1, ?_⟩⟩
    rcases q with ⟨k, _⟩ | ⟨_, c', e', z⟩
    · have k : X.env.scope.names.lookup y = some .local := k
      rcases ok.free _ (PySem.mem_of_lookup hfr) rfl with k' | k' <;> rw [show X.env.scope.names.lookup y = _ from k'] at k <;> cases k
    · rw [h2] at e'; cases e'
      exact z.keeps kp
  · obtain ⟨w, z⟩ := I.cell y c (cm e).1
    exact ⟨w, z.keeps kp⟩
  · show H cenv.locals = none
    rw [hL]; exact I.hok.fresh (Nat.le_refl _)
  · exact I.freeC y c (cm e).1
  · have hp : p = (h'.objs.size, go) := by simpa using hp
    subst hp
    refine ⟨by rw [he]; exact hgf, I.hok.fresh young, ?_, fun z => ?_, hgo⟩
    · show h'.objs.size ≠ cenv.locals
      rw [hL]; omega
    · rcases List.mem_cons.mp (I.stkSub _ z) with z | z
      · have h1 : X.env.locals < s.heap.objs.size := I.lt
        rw [← z] at h1
        exact Nat.lt_irrefl _ (Nat.lt_of_lt_of_le h1 young)
      · exact I.nofs young z
/-- the machine's own: the generator expression's turn -/
abbrev genX (elt tg iter : Expr) (ifs : List Expr) (scope : Scope) (pos : Pos) : Expr := .GeneratorExp elt [⟨tg, iter, ifs, 0⟩] scope pos
structure GBody (J : It) (g : TG) (tt : TT) (te : TE) (vs : List Nat) (c : Bool) (σ : L2.St) (Q : VK) where
  W : Nat → Nat → Hp → Prop
  turn : ∀ i m H, W i m H → (J.stop i H ∧ Q (.bl (!c)) H) ∨ (J.go i H ∧ ∃ Nx : Hp → Prop, (∀ H', Nx H' → ∃ m', m' < m ∧ W (i + 1) m' H') ∧ ∀ x H', J.yld i H x H' → g x (wipe σ vs) H' fun σ2 H2 => wipe σ2 vs = wipe σ vs ∧ tt σ2 H2 fun b H3 =>
    if b = true then te σ2 H3 fun y H4 => ∃ z, y = .bl z ∧ if z = c then Q (.bl c) H4 else Nx H4 else Nx H3)
/-- its end: the def's state again, the answer for all -/
def GEnd (X : Cx) (pins : List (Addr × Obj)) (σ : L2.St) (c : Bool) (Q : VK) : GenEnd := fun _ _ r s1 => r = .ok .next ∧ ∃ H', Inv X pins σ H' s1 ∧ Q (.bl (!c)) H'
/-- a test told: it ends the walk, or the generator goes on from a state alike -/
def GItem (X : Cx) (pins : List (Addr × Obj)) (σ : L2.St) (c : Bool) (Q : VK) (a : Addr) (gn : Nat) : Protocol := fun _ _ v s1 kap =>
  ∃ z, v = .bool z ∧ s1.heap.IsGen a gn ∧ s1.heap.NoLimit ∧ AllBare s1.gens ∧ if z = c then ∃ H', Inv X pins σ H' s1 ∧ Q (.bl c) H' else ∀ s2 : Shared, s2.heap = s1.heap → s2.os = s1.os → AllBare s2.gens → kap (.send .none) s2
theorem inv_gens {s2 : Shared} (I : Inv X pins σ H s) (hh : s2.heap = s.heap) (hos : s2.os = s.os) (hg : AllBare s2.gens) : Inv X pins σ H s2 :=
  I.call' (ch := []) hos (by rw [hh]; exact Un.kept fun _ _ e => e) (by rw [hh]; exact I.hok) hg fun b z => by simp at z
theorem inv_grown {s2 : Shared} (I : Inv X pins σ H s) (hh : ∀ b o, s.heap.get? b = some o → s2.heap.get? b = some o) (hos : s2.os = s.os) (hg : AllBare s2.gens) : Inv X pins σ H s2 :=
  I.call' (ch := []) hos (Un.kept hh) (I.hok.kept hh) hg fun b z => by simp at z
theorem seg_gen {scope : Scope} {own : List (Str × Nat)} {fp : List Addr} {B : Around} {cenv : Env} {go : Obj} {a it : Addr} {gn : Nat} {elt tg iter : Expr} {ifs : List Expr} {gpos : Pos} {g : TG} {tt : TT} {te : TE} {c : Bool} {Q : VK} {J : It} {tn : Nat → Heap → Prop}
    (hc : X.calm = true) (I : Inv X pins σ H s) (hfp : ∀ b ∈ fp, FpOk X pins H b ∧ b < s.heap.objs.size) (hco : cenv.scope.isCoroutine = false)
    (T : Turn X.prog X.w X.K tg J fp it tn) (D : GBody J g tt te (own.map (·.2)) c σ Q)
    (hgo : ∀ h : Heap, h.get? a = some go → h.IsGen a gn) (hsa : s.heap.objs.size ≤ a)
    (pg : PG (gbx X (B.over (.compLoop (genX elt tg iter ifs scope gpos) 0 (.ref it) .none cenv) []) s H scope cenv fp [(a, go)]) tg g)
    (pt : PTs (gbx X (B.over (.compLoop (genX elt tg iter ifs scope gpos) 0 (.ref it) .none cenv) []) s H scope cenv fp [(a, go)]) ifs tt)
    (pe : PE (gbx X (B.over (.compLoop (genX elt tg iter ifs scope gpos) 0 (.ref it) .none cenv) []) s H scope cenv fp [(a, go)]) elt te) :
    ∀ (n m i : Nat) (s₀ s5 : Shared) (H5 : Hp), m < n → D.W i m H5 → Inv (gbx X (B.over (.compLoop (genX elt tg iter ifs scope gpos) 0 (.ref it) .none cenv) []) s H scope cenv fp [(a, go)]) [] (wipe σ (own.map (·.2))) H5 s5 → tn i s5.heap → (∀ b ∈ fp, H5 b = none) →
      Seg (model X.prog X.w) B (GEnd X pins σ c Q) (GItem X pins σ c Q a gn) n s₀ (.compLoop (genX elt tg iter ifs scope gpos) 0 (.ref it) .none cenv)
        ((model X.prog X.w).den (.compLoop (genX elt tg iter ifs scope gpos) 0 (.ref it) .none cenv)) [] s5 := by
  generalize hA : B.over (.compLoop (genX elt tg iter ifs scope gpos) 0 (.ref it) .none cenv) [] = Ag at pg pt pe
  have stat : ∀ {σ' : L2.St} {H' : Hp} {s' : Shared}, Inv (gbx X Ag s H scope cenv fp [(a, go)]) [] σ' H' s' → (∀ b ∈ fp, H' b = none) → ∀ b ∈ fp, FpOk (gbx X Ag s H scope cenv fp [(a, go)]) [] H' b := fun {σ' H' s'} I' hn b hb =>
    ⟨hn b hb, (I'.ok.exf b hb).1, I'.ok.exfs b hb, .inl hb, fun x c e => (I'.ok.exf b hb).2 x c e, fun p hp => by
      have hp : p = (a, go) := by simpa using hp
      subst hp
      exact fun z => absurd (hfp b hb).2 (Nat.not_lt_of_le (by rw [← show a = b from z]; exact hsa))⟩
  -- back in the def's context
  have back : ∀ {σ' : L2.St} {H' : Hp} {s' : Shared} {pins' : List (Addr × Obj)}, Inv (gbx X Ag s H scope cenv fp [(a, go)]) pins' σ' H' s' → Inv X pins σ H' s' := fun {σ' H' s' pins'} I6 =>
    I.call' (ch := fp) I6.os I6.base I6.hok I6.bare fun b hb => ⟨(hfp b hb).1.2.2.2.1, (hfp b hb).1.2.1, (hfp b hb).1.2.2.2.2.1, (hfp b hb).1.2.2.2.2.2⟩
  intro n
  induction n with
  | zero => intro m i s₀ s5 H5 hm; exact absurd hm (Nat.not_lt_zero _)
  | succ n ihn =>
    intro m
    induction m using Nat.strongRecOn with
    | ind m ihm =>
      intro i s₀ s5 H5 hmn w5 I5 st5 n5
      show Seg _ B _ _ _ s₀ _ ((compTurn (genX elt tg iter ifs scope gpos) 0 (.ref it) .none cenv).onRaise (leaving cenv)) [] s5
      rw [compTurn_gen, Sem.onRaise_eq_wrap]
      refine seg_bind_wrap (wpAny_standAt ?_)
      have hcB : (gbx X Ag s H scope cenv fp [(a, go)]).calm = true := hc
      rcases D.turn i m H5 w5 with ⟨stop, qq⟩ | ⟨go', Nx, hNx, step⟩
      · have td := T.done (gbx X Ag s H scope cenv fp [(a, go)]) rfl rfl rfl hcB i [] s5 _ H5 (fun _ _ => False) I5 (stat I5 n5) st5 stop
        refine seg_bind_wrap ?_
        rw [hA]
        refine thnF td fun r s6 ⟨hr, I6⟩ => ?_
        subst hr
        exact seg_end (.ok .next) ⟨rfl, H5, back I6, qq⟩
      · have ti := T.item (gbx X Ag s H scope cenv fp [(a, go)]) rfl rfl rfl hcB i [] s5 _ H5 (fun _ _ => False) I5 (stat I5 n5) st5 go'
        refine seg_bind_wrap ?_
        rw [hA]
        refine thnF ti fun r s6 ⟨u, hr, h6⟩ => ?_
        subst hr
        refine seg_bind_wrap ?_
        rw [hA]
        refine thnF h6 fun _ s7 ⟨x, H7, I7, r7, y7, st7, n7⟩ => ?_
        have I7' := I7.pinned (stat I7 n7) (T.obj _ _ st7)
        refine seg_bind_wrap ?_
        rw [hA]
        refine thnF (pg.run _ s7 _ H7 x u _ I7' r7 (step x H7 y7)) fun _ s8 ⟨σ8, H8, I8, hw8, q8⟩ => ?_
        refine seg_bind_wrap ?_
        rw [hA]
        refine thnF (pt.run _ s8 σ8 H8 _ I8 q8) fun b s9 ⟨H9, I9, q9⟩ => ?_
        -- the turn's end
        have fin : ∀ {s' : Shared} {H' : Hp}, Inv (gbx X Ag s H scope cenv fp [(a, go)]) ([] ++ pinsAt fp s7.heap) σ8 H' s' → Inv (gbx X Ag s H scope cenv fp [(a, go)]) [] (wipe σ (own.map (·.2))) H' s' ∧ tn (i + 1) s'.heap ∧ ∀ b ∈ fp, H' b = none := fun {s' H'} I' => by
          have pin' : ∀ b ∈ fp, ∀ o, s7.heap.get? b = some o → s'.heap.get? b = some o ∧ H' b = none := fun b hb o e =>
            let z := I'.pin (b, o) (List.mem_append_right _ (List.mem_append_right _ (mem_pinsAt hb e)))
            ⟨z.1, z.2.1⟩
          have hl : (wipe σ (own.map (·.2))).length = σ8.length := by rw [← hw8, wipe_length]
          refine ⟨(I'.unpinned (pins := [])).weak hl (fun j v e => ?_), T.keep _ _ _ st7 fun b hb o e => (pin' b hb o e).1, fun b hb => ?_⟩
          · rw [← hw8] at e
            exact (wipe_some e).1
          · obtain ⟨o, e, _⟩ := T.obj _ _ st7 b hb
            exact (pin' b hb o e).2
        cases b with
        | false =>
          simp only [Bool.false_eq_true, if_false] at q9 ⊢
          obtain ⟨m', hm', w'⟩ := hNx _ q9
          obtain ⟨J1, J2, J3⟩ := fin I9
          exact seg_again rfl (ihm m' hm' (i + 1) s₀ s9 H9 (by omega) w' J1 J2 J3)
        | true =>
          simp only [if_true] at q9 ⊢
          have hy : ∀ v, yieldOut cenv v = yieldValue v := fun v => by simp only [yieldOut, hco, Bool.false_eq_true, if_false]
          simp only [hy]
          rw [Sem.bind_eq_wrap', Sem.bind_eq_wrap', Sem.wrap_wrap, Sem.wrap_wrap]
          refine seg_wrap ?_
          rw [hA]
          refine thnF (pe.run _ s9 σ8 H9 _ I9 q9) fun z s10 ⟨yv, H10, I10, r10, zb, ez, q10⟩ => ?_
          subst ez
          have ez : z = Value.bool zb := r10
          subst ez
          refine seg_at (seg_yield rfl rfl rfl ⟨zb, rfl, hgo _ (I10.pin (a, go) (List.mem_append_left _ List.mem_cons_self)).1, I10.nolimit, I10.bare, ?_⟩)
          by_cases hz : zb = c
          · rw [if_pos hz] at q10 ⊢
            exact ⟨H10, back I10, q10⟩
          · rw [if_neg hz] at q10 ⊢
            intro s2 e1 e2 e3
            obtain ⟨m', hm', w'⟩ := hNx _ q10
            obtain ⟨J1, J2, J3⟩ := fin I10
            refine seg_again rfl (ihn m' (i + 1) s2 s2 H10 (by omega) w' (inv_gens J1 e1 e2 e3) (by rw [e1]; exact J2) J3)
/-- the generator, not begun -/
theorem seg_genS {scope : Scope} {own : List (Str × Nat)} {fp : List Addr} {B : Around} {cenv : Env} {go : Obj} {a it : Addr} {gn : Nat} {elt tg iter : Expr} {ifs : List Expr} {gpos : Pos} {g : TG} {tt : TT} {te : TE} {c : Bool} {Q : VK} {J : It} {tn : Nat → Heap → Prop}
    (hc : X.calm = true) (I : Inv X pins σ H s) (hfp : ∀ b ∈ fp, FpOk X pins H b ∧ b < s.heap.objs.size) (hco : cenv.scope.isCoroutine = false)
    (T : Turn X.prog X.w X.K tg J fp it tn) (D : GBody J g tt te (own.map (·.2)) c σ Q)
    (hgo : ∀ h : Heap, h.get? a = some go → h.IsGen a gn) (hsa : s.heap.objs.size ≤ a)
    (pg : PG (gbx X (B.over (.compLoop (genX elt tg iter ifs scope gpos) 0 (.ref it) .none cenv) []) s H scope cenv fp [(a, go)]) tg g)
    (pt : PTs (gbx X (B.over (.compLoop (genX elt tg iter ifs scope gpos) 0 (.ref it) .none cenv) []) s H scope cenv fp [(a, go)]) ifs tt)
    (pe : PE (gbx X (B.over (.compLoop (genX elt tg iter ifs scope gpos) 0 (.ref it) .none cenv) []) s H scope cenv fp [(a, go)]) elt te)
    {m : Nat} {s₀ s5 : Shared} {H5 : Hp} (w5 : D.W 0 m H5) (I5 : Inv (gbx X (B.over (.compLoop (genX elt tg iter ifs scope gpos) 0 (.ref it) .none cenv) []) s H scope cenv fp [(a, go)]) [] (wipe σ (own.map (·.2))) H5 s5) (st5 : tn 0 s5.heap) (n5 : ∀ b ∈ fp, H5 b = none) :
    Seg (model X.prog X.w) B (GEnd X pins σ c Q) (GItem X pins σ c Q a gn) (m + 1) s₀ (.compStart (genX elt tg iter ifs scope gpos) 0 (.ref it) .none cenv)
        ((model X.prog X.w).den (.compStart (genX elt tg iter ifs scope gpos) 0 (.ref it) .none cenv)) [] s5 := by
  have loop := seg_gen hc I hfp hco T D hgo hsa pg pt pe (m + 1) m 0 s₀ s5 H5 (Nat.lt_succ_self _) w5 I5 st5 n5
  show Seg _ B _ _ _ s₀ _ ((compStart (genX elt tg iter ifs scope gpos) 0 (.ref it) .none cenv).onRaise (leaving cenv)) [] s5
  unfold compStart
  rw [Sem.onRaise_eq_wrap]
  show Seg _ B _ _ _ s₀ _ ((ask >>= _).wrap _ _ _ _) [] s5
  refine seg_bind_wrap (wpAny_askSetting ?_)
  split
  · exact seg_again rfl loop
  · first
      | exact seg_bind_wrap (wpAny_rule (seg_bind_wrap (wpAny_standAt (seg_bind_wrap (T.self _ 0 s5 _ _ st5 (seg_again rfl loop))))))
      | (refine seg_bind_wrap (wpAny_rule ?_); show Seg _ B _ _ _ s₀ _ ((standAt iter.pos >>= _).wrap _ _ _ _) [] s5; exact seg_bind_wrap (wpAny_standAt (seg_bind_wrap (T.self _ 0 s5 _ _ st5 (seg_again rfl loop)))))
/-- all: on until a test is False -/
theorem all_loop {Q : VK} {a : Addr} {gn : Nat} {R : Result → Shared → Prop} (hh : X.A.handled = none) (hroom : X.A.depth < recursionLimit)
    (hR : ∀ b s', (∃ H', Inv X pins σ H' s' ∧ Q (.bl b) H') → R (.ok (.ret (.bool b))) s') :
    ∀ (n : Nat) (s5 : Shared), s5.heap.IsGen a gn → s5.heap.NoLimit → (∃ gs, s5.gens[gn]? = some gs ∧ gs.Goes (model X.prog X.w) X.A.in1.in1 (GEnd X pins σ false Q) (GItem X pins σ false Q a gn) n (.send .none) (s5.setGen gn .running)) →
      codeAny (model X.prog X.w) X.A (.builtin "all.loop" ⟨[.ref a], []⟩) R s5 := by
  intro n
  induction n with
  | zero =>
    intro s5 hg hl ⟨gs, hgs, hgo⟩
    refine codeAny_builtin F.entry_all_loop ?_
    rw [Around.under_plainId F.plain_all_loop _]
    show wpAny _ X.A.in1 (pyNext (.ref a) >>= _) _ _ s5
    refine wpAny_bind (wpAny_pyNext_genexpQ (A := X.A.in1) (P := fun _ _ s₁ => ∃ H', Inv X pins σ H' s₁ ∧ Q (.bl true) H') hh hl hroom hg hgs hgo (fun v s₁ gs' hb hv => ?_) (fun s₁ hp h' hk => ?_))
    · obtain ⟨z, rfl, h1, h2, h3, hz⟩ := hv
      refine wpAny_bind (wpAny_holding (wpAny_truthy_bool ?_))
      refine wpAny_bind (wpAny_letGo ?_)
      cases z with
      | false =>
        simp only [if_true, Bool.false_eq_true, if_false] at hz ⊢
        obtain ⟨H', I', q⟩ := hz
        exact wpAny_bind (wpAny_rule (wpAny_pure (hR _ _ ⟨H', inv_gens I' rfl rfl (allBare_setGen h3 hb), q⟩)))
      | true =>
        rw [if_neg (by decide)] at hz
        exact (hz s₁ rfl rfl h3).elim
    · refine wpAny_bind (wpAny_rule (wpAny_pure ?_))
      obtain ⟨H', I', q⟩ := hp
      exact hR true _ ⟨H', inv_grown I' hk rfl (allBare_setGen I'.bare rfl), q⟩
  | succ n ih =>
    intro s5 hg hl ⟨gs, hgs, hgo⟩
    have hgl : gn < s5.gens.size := (Array.getElem?_eq_some_iff.mp hgs).1
    refine codeAny_builtin F.entry_all_loop ?_
    rw [Around.under_plainId F.plain_all_loop _]
    show wpAny _ X.A.in1 (pyNext (.ref a) >>= _) _ _ s5
    refine wpAny_bind (wpAny_gsz (n := gn + 1) hgl (wpAny_pyNext_genexpQ (A := X.A.in1) (P := fun _ _ s₁ => ∃ H', Inv X pins σ H' s₁ ∧ Q (.bl true) H') hh hl hroom hg hgs hgo (fun v s₁ gs' hb hv => ?_) (fun s₁ hp h' hk => ?_)))
    · intro hsz
      obtain ⟨z, rfl, h1, h2, h3, hz⟩ := hv
      refine wpAny_bind (wpAny_holding (wpAny_truthy_bool ?_))
      refine wpAny_bind (wpAny_letGo ?_)
      cases z with
      | false =>
        simp only [if_true, Bool.false_eq_true, if_false] at hz ⊢
        obtain ⟨H', I', q⟩ := hz
        exact wpAny_bind (wpAny_rule (wpAny_pure (hR _ _ ⟨H', inv_gens I' rfl rfl (allBare_setGen h3 hb), q⟩)))
      | true =>
        rw [if_neg (by decide)] at hz
        simp only [if_true]
        have hsz1 : gn < s₁.gens.size := by
          have q : (s₁.setGen gn gs').gens.size = s₁.gens.size := setGen_size _ _ _
          have hsz' : gn + 1 ≤ (s₁.setGen gn gs').gens.size := hsz
          omega
        exact wpAny_pure ⟨plainId_quiet F.plain_all_loop _, ih _ h1 h2 ⟨gs', setGen_at hsz1, hz _ rfl rfl (allBare_setGen (s := s₁.setGen gn gs') (allBare_setGen h3 hb) rfl)⟩⟩
    · intro _
      refine wpAny_bind (wpAny_rule (wpAny_pure ?_))
      obtain ⟨H', I', q⟩ := hp
      exact hR true _ ⟨H', inv_grown I' hk rfl (allBare_setGen I'.bare rfl), q⟩
/-- any: on until a test is True -/
theorem any_loop {Q : VK} {a : Addr} {gn : Nat} {R : Result → Shared → Prop} (hh : X.A.handled = none) (hroom : X.A.depth < recursionLimit)
    (hR : ∀ b s', (∃ H', Inv X pins σ H' s' ∧ Q (.bl b) H') → R (.ok (.ret (.bool b))) s') :
    ∀ (n : Nat) (s5 : Shared), s5.heap.IsGen a gn → s5.heap.NoLimit → (∃ gs, s5.gens[gn]? = some gs ∧ gs.Goes (model X.prog X.w) X.A.in1.in1 (GEnd X pins σ true Q) (GItem X pins σ true Q a gn) n (.send .none) (s5.setGen gn .running)) →
      codeAny (model X.prog X.w) X.A (.builtin "any.loop" ⟨[.ref a], []⟩) R s5 := by
  intro n
  induction n with
  | zero =>
    intro s5 hg hl ⟨gs, hgs, hgo⟩
    refine codeAny_builtin F.entry_any_loop ?_
    rw [Around.under_plainId F.plain_any_loop _]
    show wpAny _ X.A.in1 (pyNext (.ref a) >>= _) _ _ s5
    refine wpAny_bind (wpAny_pyNext_genexpQ (A := X.A.in1) (P := fun _ _ s₁ => ∃ H', Inv X pins σ H' s₁ ∧ Q (.bl false) H') hh hl hroom hg hgs hgo (fun v s₁ gs' hb hv => ?_) (fun s₁ hp h' hk => ?_))
    · obtain ⟨z, rfl, h1, h2, h3, hz⟩ := hv
      refine wpAny_bind (wpAny_holding (wpAny_truthy_bool ?_))
      refine wpAny_bind (wpAny_letGo ?_)
      cases z with
      | true =>
        simp only [if_true] at hz ⊢
        obtain ⟨H', I', q⟩ := hz
        exact wpAny_bind (wpAny_rule (wpAny_pure (hR _ _ ⟨H', inv_gens I' rfl rfl (allBare_setGen h3 hb), q⟩)))
      | false =>
        rw [if_neg (by decide)] at hz
        exact (hz s₁ rfl rfl h3).elim
    · refine wpAny_bind (wpAny_rule (wpAny_pure ?_))
      obtain ⟨H', I', q⟩ := hp
      exact hR false _ ⟨H', inv_grown I' hk rfl (allBare_setGen I'.bare rfl), q⟩
  | succ n ih =>
    intro s5 hg hl ⟨gs, hgs, hgo⟩
    have hgl : gn < s5.gens.size := (Array.getElem?_eq_some_iff.mp hgs).1
    refine codeAny_builtin F.entry_any_loop ?_
    rw [Around.under_plainId F.plain_any_loop _]
    show wpAny _ X.A.in1 (pyNext (.ref a) >>= _) _ _ s5
    refine wpAny_bind (wpAny_gsz (n := gn + 1) hgl (wpAny_pyNext_genexpQ (A := X.A.in1) (P := fun _ _ s₁ => ∃ H', Inv X pins σ H' s₁ ∧ Q (.bl false) H') hh hl hroom hg hgs hgo (fun v s₁ gs' hb hv => ?_) (fun s₁ hp h' hk => ?_)))
    · intro hsz
      obtain ⟨z, rfl, h1, h2, h3, hz⟩ := hv
      refine wpAny_bind (wpAny_holding (wpAny_truthy_bool ?_))
      refine wpAny_bind (wpAny_letGo ?_)
      cases z with
      | true =>
        simp only [if_true] at hz ⊢
        obtain ⟨H', I', q⟩ := hz
        exact wpAny_bind (wpAny_rule (wpAny_pure (hR _ _ ⟨H', inv_gens I' rfl rfl (allBare_setGen h3 hb), q⟩)))
      | false =>
        rw [if_neg (by decide)] at hz
        simp only [Bool.false_eq_true, if_false]
        have hsz1 : gn < s₁.gens.size := by
          have q : (s₁.setGen gn gs').gens.size = s₁.gens.size := setGen_size _ _ _
          have hsz' : gn + 1 ≤ (s₁.setGen gn gs').gens.size := hsz
          omega
        exact wpAny_pure ⟨plainId_quiet F.plain_any_loop _, ih _ h1 h2 ⟨gs', setGen_at hsz1, hz _ rfl rfl (allBare_setGen (s := s₁.setGen gn gs') (allBare_setGen h3 hb) rfl)⟩⟩
    · intro _
      refine wpAny_bind (wpAny_rule (wpAny_pure ?_))
      obtain ⟨H', I', q⟩ := hp
      exact hR false _ ⟨H', inv_grown I' hk rfl (allBare_setGen I'.bare rfl), q⟩
/-- a generator that stands ready, behind its making -/
def GReady (X : Cx) (pins : List (Addr × Obj)) (σ : L2.St) (c : Bool) (Q : VK) (v : Value) (s5 : Shared) : Prop :=
  ∃ (a : Addr) (gn n : Nat), v = .ref a ∧ s5.heap.IsGen a gn ∧ s5.heap.NoLimit ∧ ∃ gs, s5.gens[gn]? = some gs ∧ gs.Goes (model X.prog X.w) X.A.in1.in1 (GEnd X pins σ c Q) (GItem X pins σ c Q a gn) n (.send .none) (s5.setGen gn .running)
theorem call_all_gen {Q : VK} {v : Value} {E : Value → Shared → Prop} {s5 : Shared} (hh : X.A.handled = none) (hroom : X.A.depth < recursionLimit) (h : GReady X pins σ false Q v s5) :
    wpAny (model X.prog X.w) X.A (call (.builtin "all") [v]) (EP X pins σ Q) E s5 := by
  obtain ⟨a, gn, n, rfl, hg, hl, hgs⟩ := h
  refine call_function_tree F.kind_all F.plain_all F.entry_all (F.args_all1 _) ?_
  unfold Builtin.«all»
  refine wpAny_bind (m := oneArg "all" _) (wpAny_pure ?_)
  refine wpAny_bind (wpAny_pyIter_gen hg ?_)
  exact wpAny_pure ⟨plainId_quiet F.plain_all_loop _, all_loop hh hroom (fun b s' ⟨H', I', q⟩ => ⟨.bl b, H', I', rfl, q⟩) n s5 hg hl hgs⟩
theorem call_any_gen {Q : VK} {v : Value} {E : Value → Shared → Prop} {s5 : Shared} (hh : X.A.handled = none) (hroom : X.A.depth < recursionLimit) (h : GReady X pins σ true Q v s5) :
    wpAny (model X.prog X.w) X.A (call (.builtin "any") [v]) (EP X pins σ Q) E s5 := by
  obtain ⟨a, gn, n, rfl, hg, hl, hgs⟩ := h
  refine call_function_tree F.kind_any F.plain_any F.entry_any (F.args_any1 _) ?_
  unfold Builtin.«any»
  refine wpAny_bind (m := oneArg "any" _) (wpAny_pure ?_)
  refine wpAny_bind (wpAny_pyIter_gen hg ?_)
  exact wpAny_pure ⟨plainId_quiet F.plain_any_loop _, any_loop hh hroom (fun b s' ⟨H', I', q⟩ => ⟨.bl b, H', I', rfl, q⟩) n s5 hg hl hgs⟩
/-- a generator expression's own scope -/
structure GSc (scope : Scope) : Prop where
  co : scope.isCoroutine = false
  cell : ∀ y ∈ scope.names, y.2 ≠ .cell
  dot : scope.names.lookup (".0" : Str) = some NameKind.local
/-- a walk of tests, up to the first that is c; the def's table may have grown ahead of it -/
def tQt (c : Bool) (P : Addr) (wi : TI) (g : TG) (tt : TT) (te : TE) (vs : List Nat) : TE := fun σ H Q => wi σ H fun J H1 => GxR.TabG H1 P ∧ ∀ H2, GxR.Tabbed P H1 H2 → ∃ (D : GBody J g tt te vs c σ Q) (m : Nat), D.W 0 m H2
theorem gen_made {cc P : Addr} {elt tg iter : Expr} {ifs : List Expr} {gpos : Pos} {scope : Scope} {own : List (Str × Nat)} {wi : TI} {g : TG} {tt : TT} {te : TE} {k : Nat} {c : Bool} {Q' : Value → Shared → Prop} {Q : VK}
    (hc : X.calm = true) (hN : X.N.Nodup) (hr : Room (k + 1) X.A) (TB : GxR.TabB X.base X.mg cc P) (hcode : X.env.code = .ref cc) (S : GSc scope) (ok : BlkOk X.N X.env.scope scope own) (hi : PI X tg iter wi)
    (hg : ∀ (Ag : Around) (s : Shared) (H : Hp) (C : Addr) (cl : List (Str × Addr)) (code : Value) (fp : List Addr) (pn : List (Addr × Obj)), Room k Ag → PG (gbx X Ag s H scope (genEnv scope cl C code builtinsNs X.env) fp pn) tg g)
    (ht : ∀ (Ag : Around) (s : Shared) (H : Hp) (C : Addr) (cl : List (Str × Addr)) (code : Value) (fp : List Addr) (pn : List (Addr × Obj)), Room k Ag → PTs (gbx X Ag s H scope (genEnv scope cl C code builtinsNs X.env) fp pn) ifs tt)
    (he : ∀ (Ag : Around) (s : Shared) (H : Hp) (C : Addr) (cl : List (Str × Addr)) (code : Value) (fp : List Addr) (pn : List (Addr × Obj)), Room k Ag → PE (gbx X Ag s H scope (genEnv scope cl C code builtinsNs X.env) fp pn) elt te)
    (hs : ∀ v, genFold iter X.env v = pure v) (I : Inv X pins σ H s) (h : tQt c P wi g tt te (own.map (·.2)) σ H Q) (hQ : ∀ v s5, GReady X pins σ c Q v s5 → Q' v s5) :
    wpAny (model X.prog X.w) X.A (eval (genX elt tg iter ifs scope gpos) X.env) Q' X.xe s := by
  have hh := I.ok.hd hc
  have hroom : X.A.depth < recursionLimit := by have := hr.dp; omega
  have hfree : ∀ y ∈ scope.names, y.2 = .free → ∃ c, X.env.cells.lookup y.1 = some c := fun y hy e => by
    rcases ok.free y hy e with k | k
    · exact I.ok.has _ (.inl k)
    · exact I.ok.has _ (.inr k)
  refine wpAny_GeneratorExp_make S.co (closure_ok hfree) S.cell S.dot ok.kind hroom (thn (hi.run pins s σ H _ I h) fun xv s1 hx => thn hx fun itv s2 h2 => ?_) hs
  obtain ⟨it, fp, tn, J, H2, e, I2, T, st2, f2, ⟨ps, hP, htr⟩, q⟩ := h2
  subst e
  refine ⟨I2.nolimit, ?_⟩
  have hPs : s2.heap.get? P = some { cls := .none, data := .fields ps } := I2.hok P _ hP
  have nP : ∀ b ∈ fp, b ≠ P := fun b hb z => by
    have := (f2 b hb).1
    rw [z, hP] at this; cases this
  have cd : PySem.W.CodeHd s2.heap cc P := TB.code.keeps fun b u e => I2.bk b u e
  have cont : ∀ (code : Value) (h3 : Heap) (tk : Nat) (ps' : Array Value), Heap.ExtBut P s2.heap h3 → h3.get? P = some { cls := .none, data := .fields ps' } → (∃ more, ps' = ps ++ more) → TriplesOk ps'.toList →
      wpAny (model X.prog X.w) X.A (builtinsFor X.env.globals X.env.builtins) (fun bi s₄ =>
        ∀ h', h'.Ns s₄.heap.objs.size (fun y => if y = ".0" then some (.ref it) else none) → Heap.SameBut s₄.heap.objs.size (s₄.heap.push { cls := .type "frame", data := .dict #[] }) h' →
          Q' (.ref h'.objs.size) { s₄ with
            gens := s₄.gens.push (.fresh (.compStart (genX elt tg iter ifs scope gpos) 0 (.ref it) .none (genEnv scope (cloFrom X.env.cells scope.names []) s₄.heap.objs.size code bi X.env))),
            toks := s₄.toks + 1 + 1 + 1,
            heap := h'.push { cls := .type "generator", data := .fields #[.int s₄.gens.size 0, .str "<genexpr>" (s₄.toks + 1), .str (X.env.qual ++ "<genexpr>") (s₄.toks + 1 + 1)] } }) X.xe { s2 with heap := h3, toks := tk } := by
    intro code h3 tk ps' hx hP3 hmore ht3
    obtain ⟨more, rfl⟩ := hmore
    obtain ⟨bm, ob, e1, e2, e3, e4, e5, e6, e7, e8⟩ := TB.bm
    have keep3 : ∀ b u, b ≠ P → s2.heap.get? b = some u → h3.get? b = some u := fun b u hb e => hx b u hb e
    have I3 := GxR.inv_tab (more := more) (h' := h3) (g' := s2.gens) (d' := s2.drawn) (t' := tk) I2 hP keep3 hP3 I2.bare
    have f3 : ∀ b ∈ fp, FpOk X pins (upd H2 P (.tbl (ps ++ more))) b := fun b hb => by
      obtain ⟨z0, z⟩ := f2 b hb
      exact ⟨by rw [upd_ne (nP b hb)]; exact z0, z⟩
    have st3 : tn 0 h3 := T.keep _ _ _ st2 fun b hb o e => keep3 b o (nP b hb) e
    obtain ⟨D, m, w0⟩ := q _ ⟨⟨ps ++ more, upd_same, ht3⟩, fun b hb => upd_ne hb⟩
    generalize hs3 : ({ s2 with heap := h3, toks := tk } : Shared) = s3 at I3
    have eh : s3.heap = h3 := by rw [← hs3]
    generalize upd H2 P (.tbl (ps ++ more)) = H3 at I3 f3 w0
    refine wpAny_builtinsFor (m := X.mg) (by rw [I2.ok.glob, eh]; exact (I2.mod.glob.keeps I2.bk).extBut hx TB.gP) e1 e2 (by rw [eh]; exact keep3 _ _ e4 (I2.bk _ _ e5)) e6 e7 e8 ?_
    intro h' hn hsb
    refine hQ _ _ ?_
    have sz : ∀ b ∈ fp, b < s3.heap.objs.size := fun b hb => by
      obtain ⟨o, e, _⟩ := T.obj _ _ st3 b hb
      rw [eh]; exact Heap.lt_size e
    have szh : h'.objs.size = s3.heap.objs.size + 1 := hsb.1.trans (Heap.size_push ..)
    generalize hgo : ({ cls := .type "generator", data := .fields #[.int s3.gens.size 0, .str "<genexpr>" (s3.toks + 1), .str (X.env.qual ++ "<genexpr>") (s3.toks + 1 + 1)] } : Obj) = go
    have hgf : (h'.push go).get? h'.objs.size = some go := by rw [← hgo]; exact Heap.get?_push_size _ rfl
    have hgen : ∀ h : Heap, h.get? h'.objs.size = some go → h.IsGen h'.objs.size s3.gens.size := fun h e => ⟨go, _, _, e, by rw [← hgo], by rw [← hgo], by rw [← hgo]⟩
    have hgd : ∀ v, go.data ≠ .cell v := fun v z => by rw [← hgo] at z; cases z
    generalize hce : genEnv scope (cloFrom X.env.cells scope.names []) s3.heap.objs.size code builtinsNs X.env = cenv
    have kp : ∀ b o, s3.heap.get? b = some o → (h'.push go).get? b = some o := fun b o e => Heap.get?_push_of_some _ (hsb.extBut b o (Nat.ne_of_lt (Heap.lt_size e)) (Heap.get?_push_of_some _ e))
    have rm : Room k (Around.over X.A.in1.in1 (.compLoop (genX elt tg iter ifs scope gpos) 0 (.ref it) .none cenv) []) := ⟨hh, by
      have := hr.dp
      have e : (Around.over X.A.in1.in1 (.compLoop (genX elt tg iter ifs scope gpos) 0 (.ref it) .none cenv) []).depth ≤ X.A.depth + 1 := Nat.le_of_eq rfl
      omega, by
      have := hr.un
      have e : (Around.over X.A.in1.in1 (.compLoop (genX elt tg iter ifs scope gpos) 0 (.ref it) .none cenv) []).units ≤ X.A.units + 5 := Nat.le_of_eq rfl
      omega⟩
    have fr : (Around.over X.A.in1.in1 (.compLoop (genX elt tg iter ifs scope gpos) 0 (.ref it) .none cenv) []).frames = some (cenv :: X.stack) := by
      simp [Around.over, genX, envsOf, pushEnvs, Code.envs, Code.env?, Code.isFrame, I.ok.frames]
    refine ⟨h'.objs.size, s3.gens.size, m + 1, rfl, hgen _ hgf, I3.nolimit.keeps kp, _, Array.getElem?_push_size .., rfl, ?_⟩
    have I5 := gen_start (Ag := Around.over X.A.in1.in1 (.compLoop (genX elt tg iter ifs scope gpos) 0 (.ref it) .none cenv) []) (code := code) (fp := fp) (own := own) (scope := scope)
      (s2 := ({ s3 with gens := s3.gens.push (.fresh (.compStart (genX elt tg iter ifs scope gpos) 0 (.ref it) .none cenv)), toks := s3.toks + 1 + 1 + 1, heap := h'.push go } : Shared).setGen s3.gens.size .running)
      I3 ok hN S.cell (fun b hb => ⟨f3 b hb, sz b hb⟩) hh (by rw [hce]; exact fr) hn hsb rfl rfl (allBare_setGen (AllBare.push I3.bare rfl) rfl) hgd hgf
    rw [hce] at I5
    have pg := hg _ s3 H3 s3.heap.objs.size (cloFrom X.env.cells scope.names []) code fp [(h'.objs.size, go)] rm
    have pt := ht _ s3 H3 s3.heap.objs.size (cloFrom X.env.cells scope.names []) code fp [(h'.objs.size, go)] rm
    have pe := he _ s3 H3 s3.heap.objs.size (cloFrom X.env.cells scope.names []) code fp [(h'.objs.size, go)] rm
    rw [hce] at pg pt pe
    exact seg_genS hc I3 (fun b hb => ⟨f3 b hb, sz b hb⟩) (by rw [← hce]; exact S.co) T D hgen (by omega) pg pt pe w0 I5 (T.keep _ _ _ (by rw [eh]; exact st3) fun b _ o e => kp b o e) fun b hb => (f3 b hb).1
  cases hf : codeAmong gpos ps.toList with
  | none =>
    refine wpAny_genexprCodeX hcode (cd.code hPs htr) (cd.tab hPs) hf fun c' h' tk hx hge hlt hco' _ htab' _ => ?_
    obtain ⟨o1, vs, f1, tf, fl, tg, inF, tx, tt, op, _, _, _, _, _, _, _, _, _, htr', _⟩ := hco'
    exact cont _ h' tk _ hx htab'.2 ⟨_, rfl⟩ htr'
  | some cv =>
    refine wpAny_genexprCode_hit hcode (cd.code hPs htr) hf ?_
    exact cont cv s2.heap s2.toks ps (Heap.ExtBut.refl _ _) hPs ⟨#[], by simp⟩ htr
end
section
variable {X : Cx} {cc P : Addr} {elt tg iter : Expr} {ifs : List Expr} {p pos gpos : Pos} {scope : Scope} {own : List (Str × Nat)} {wi : TI} {g : TG} {tt : TT} {te : TE} {k : Nat}
theorem pe_allG (hc : X.calm = true) (hN : X.N.Nodup) (hr : Room (k + 1) X.A) (hgl : Gl X "all") (hm : X.mg "all" = none) (hb : bootBuiltins "all" = some (.builtin "all")) (TB : GxR.TabB X.base X.mg cc P) (hcode : X.env.code = .ref cc) (S : GSc scope) (ok : BlkOk X.N X.env.scope scope own) (hi : PI X tg iter wi)
    (hg : ∀ (Ag : Around) (s : Shared) (H : Hp) (C : Addr) (cl : List (Str × Addr)) (code : Value) (fp : List Addr) (pn : List (Addr × Obj)), Room k Ag → PG (gbx X Ag s H scope (genEnv scope cl C code builtinsNs X.env) fp pn) tg g)
    (ht : ∀ (Ag : Around) (s : Shared) (H : Hp) (C : Addr) (cl : List (Str × Addr)) (code : Value) (fp : List Addr) (pn : List (Addr × Obj)), Room k Ag → PTs (gbx X Ag s H scope (genEnv scope cl C code builtinsNs X.env) fp pn) ifs tt)
    (he' : ∀ (Ag : Around) (s : Shared) (H : Hp) (C : Addr) (cl : List (Str × Addr)) (code : Value) (fp : List Addr) (pn : List (Addr × Obj)), Room k Ag → PE (gbx X Ag s H scope (genEnv scope cl C code builtinsNs X.env) fp pn) elt te)
    (hs : ∀ v, genFold iter X.env v = pure v) (he : starEach [genX elt tg iter ifs scope gpos] X.env = (false, eval (genX elt tg iter ifs scope gpos) X.env) :: starEach [] X.env) :
    PE X (.Call (.Name "all" p) [genX elt tg iter ifs scope gpos] [] pos) (tQt false P wi g tt te (own.map (·.2))) := by
  refine ⟨fun pins s σ H Q I h => ?_⟩
  refine wpAny_Call_Name_kw (ld_blt I hgl hm hb ?_)
  refine PyProof.Rows.callWith_builtin1 ?_ he (by rfl)
  rw [he]
  show wpAny _ _ (spliced ((false, eval (genX elt tg iter ifs scope gpos) X.env) :: backTo pos (starEach [] X.env))) _ _ s
  refine Calls.spliced_cons (gen_made hc hN hr TB hcode S ok hi hg ht he' hs I h fun v s5 hR => ?_)
  refine Calls.spliced_nil ?_
  exact call_all_gen (I.ok.hd hc) (by have := hr.dp; omega) hR
theorem pe_anyG (hc : X.calm = true) (hN : X.N.Nodup) (hr : Room (k + 1) X.A) (hgl : Gl X "any") (hm : X.mg "any" = none) (hb : bootBuiltins "any" = some (.builtin "any")) (TB : GxR.TabB X.base X.mg cc P) (hcode : X.env.code = .ref cc) (S : GSc scope) (ok : BlkOk X.N X.env.scope scope own) (hi : PI X tg iter wi)
    (hg : ∀ (Ag : Around) (s : Shared) (H : Hp) (C : Addr) (cl : List (Str × Addr)) (code : Value) (fp : List Addr) (pn : List (Addr × Obj)), Room k Ag → PG (gbx X Ag s H scope (genEnv scope cl C code builtinsNs X.env) fp pn) tg g)
    (ht : ∀ (Ag : Around) (s : Shared) (H : Hp) (C : Addr) (cl : List (Str × Addr)) (code : Value) (fp : List Addr) (pn : List (Addr × Obj)), Room k Ag → PTs (gbx X Ag s H scope (genEnv scope cl C code builtinsNs X.env) fp pn) ifs tt)
    (he' : ∀ (Ag : Around) (s : Shared) (H : Hp) (C : Addr) (cl : List (Str × Addr)) (code : Value) (fp : List Addr) (pn : List (Addr × Obj)), Room k Ag → PE (gbx X Ag s H scope (genEnv scope cl C code builtinsNs X.env) fp pn) elt te)
    (hs : ∀ v, genFold iter X.env v = pure v) (he : starEach [genX elt tg iter ifs scope gpos] X.env = (false, eval (genX elt tg iter ifs scope gpos) X.env) :: starEach [] X.env) :
    PE X (.Call (.Name "any" p) [genX elt tg iter ifs scope gpos] [] pos) (tQt true P wi g tt te (own.map (·.2))) := by
  refine ⟨fun pins s σ H Q I h => ?_⟩
  refine wpAny_Call_Name_kw (ld_blt I hgl hm hb ?_)
  refine PyProof.Rows.callWith_builtin1 ?_ he (by rfl)
  rw [he]
  show wpAny _ _ (spliced ((false, eval (genX elt tg iter ifs scope gpos) X.env) :: backTo pos (starEach [] X.env))) _ _ s
  refine Calls.spliced_cons (gen_made hc hN hr TB hcode S ok hi hg ht he' hs I h fun v s5 hR => ?_)
  refine Calls.spliced_nil ?_
  exact call_any_gen (I.ok.hd hc) (by have := hr.dp; omega) hR
end
end FLG

/-! FL13: all, any of a generator expression by data; the end with tables. -/
namespace FL
open PySem PySem.Spec PyProof.Rows L2
section
variable {K : PySem.W.Frag} {L : Lw} {b : Beg} {F F' : Hp} {s : Sl} {σ : L2.St} {H H' : Hp}
/-- the table has grown -/
theorem Rel.tabbed {P : Addr} (R : Rel K L b F s σ H) (hP : P ∈ L.tabs) (t : GxR.Tabbed P H H') : Rel K L b F s σ H' ∧ Kp b H H' := by
  obtain ⟨ps, e, tr⟩ := R.tab P hP
  obtain ⟨⟨ps', e', tr'⟩, same⟩ := t
  have ne : ∀ a o, H a = some o → (∀ ps, o ≠ .tbl ps) → a ≠ P := fun a o h n z => by
    subst z; rw [e] at h; cases h; exact n _ rfl
  have fP : F P = none := by
    cases q : F P with
    | none => rfl
    | some o =>
      have := R.sub P o q
      rw [e] at this; cases this
      exact absurd q (R.ntb P _)
  have kp : Kp b H H' := fun a o h _ n => by rw [same a (ne a o h n)]; exact h
  refine ⟨{ sub := fun a o h => ?_, old := R.old, new := R.new, keep := R.keep.trans kp, live := fun a h => R.live a ?_, drw := fun a h => ?_, tab := fun Q hQ => ?_, ntb := R.ntb, len := R.len, slot := fun i c q => (R.slot i c q).mono (Same.refl F) (fun _ h _ => h) kp, apart := R.apart }, kp⟩
  · have z : a ≠ P := fun z => by subst z; rw [fP] at h; cases h
    rw [same a z]; exact R.sub a o h
  · by_cases z : a = P
    · subst z; rw [e'] at h; cases h
    · rw [← same a z]; exact h
  · obtain ⟨h1, us, ds, h2, h3⟩ := R.drw a h
    exact ⟨h1, us, ds, by rw [same a (ne a _ h2 fun ps z => by cases z)]; exact h2, h3⟩
  · by_cases z : Q = P
    · subst z; exact ⟨ps', e', tr'⟩
    · obtain ⟨qs, h1, h2⟩ := R.tab Q hQ
      exact ⟨qs, by rw [same Q z]; exact h1, h2⟩
end
/-- tests one by one, up to the first that is c -/
def wQtL (stp : Prop → Prop → Bool → Prop) (fin stop : Bool) (wg : Wg) (wt : Wt) (we : We) (vs : List Nat) (ds : List D) : Sl → (Bool → Prop) → Prop := fun s Q => ∃ I : Nat → Prop, I 0 ∧
  (∀ i d, ds[i]? = some d → I i → wg d (wipeS (lkS s) vs) fun s2 => wt s2 (fun c => cond c (we s2 (fun y => match y with | .bool z => stp (Q stop) (I (i + 1)) z | _ => False) fun _ => False) (I (i + 1))) fun _ => False) ∧
  (I ds.length → Q fin)
def stpAll : Prop → Prop → Bool → Prop := fun A B z => cond z B A
def stpAny : Prop → Prop → Bool → Prop := fun A B z => cond z A B
def wAllL := wQtL stpAll true false
def wAnyL := wQtL stpAny false true
def wAll (wl : Wl) (wg : Wg) (wt : Wt) (we : We) (vs : List Nat) : We := fun s Q R => wl s (fun ds => wAllL wg wt we vs ds s fun b => Q (.bool b)) R
def wAny (wl : Wl) (wg : Wg) (wt : Wt) (we : We) (vs : List Nat) : We := fun s Q R => wl s (fun ds => wAnyL wg wt we vs ds s fun b => Q (.bool b)) R
section
variable {X : Cx} {L : Lw} {W : WX} {P : Addr} {vs : List Nat} {g : TG} {wg : Wg} {wi : TI} {tt : TT} {te : TE} {wl : Wl} {wt : Wt} {we : We}
theorem snd_qt {stp : Prop → Prop → Bool → Prop} {c : Bool} (hstp : ∀ A B z, stp A B z → if z = c then A else B) (hP : P ∈ L.tabs) (hi : SndI X.K L W wi wl) (hg : ∃ X' tg, FGc X' L vs tg g wg ∧ X'.K = X.K) (ht : SndT X.K L WF tt wt) (he : Snd X.K L WF te we) :
    Snd X.K L W (FLG.tQt c P wi g tt te vs) (fun s Q R => wl s (fun ds => wQtL stp (!c) c wg wt we vs ds s fun b => Q (.bool b)) R) := by
  obtain ⟨X', tg', hg, hK⟩ := hg
  intro b F s σ H Q R k I h hx kk
  refine hi b F s σ H _ R _ I h hx fun F1 ds J H1 I1 m1 k1 wd q => ⟨I1.tab P hP, fun H2 tb => ?_⟩
  obtain ⟨I2, k2⟩ := I1.tabbed hP tb
  obtain ⟨Iv, i0, ist, ie⟩ := q
  refine ⟨⟨fun i m H3 => m = ds.length - i ∧ i ≤ ds.length ∧ ∃ F3, Rel X.K L b F3 s σ H3 ∧ Same F1 F3 ∧ Kp b H H3 ∧ Iv i, ?_⟩, _, rfl, Nat.zero_le _, F1, I2, Same.refl F1, k1.trans k2, i0⟩
  rintro i m H3 ⟨rfl, hle, F3, I3, m3, k3, iv⟩
  have Ij := I3.inner
  obtain ⟨hgo, hstop, hy⟩ := wd _ F3 _ σ H3 Ij m3 trivial
  by_cases hi : i < ds.length
  · refine .inr ⟨hgo i hi, fun H4 => i + 1 ≤ ds.length ∧ ∃ F4, Rel X.K L b F4 s σ H4 ∧ Same F1 F4 ∧ Kp b H H4 ∧ Iv (i + 1), fun H4 ⟨z1, z2⟩ => ⟨ds.length - (i + 1), by omega, rfl, z1, z2⟩, fun x H4 hyy => ?_⟩
    obtain ⟨F4, d, e4, I4, m4, k4, r4⟩ := hy i x H4 hi hyy
    have q := ist i d e4 iv
    refine hg.only x _ H4 _ _ (hg.snd ⟨H3, F3, b.dr⟩ F4 _ _ H4 x d _ (fun σ' H' => tt σ' H' fun b1 H5 => if b1 = true then te σ' H5 fun y H6 => ∃ z, y = .bl z ∧ if z = c then k (.bl c) H6 else (i + 1 ≤ ds.length ∧ ∃ F4, Rel X.K L b F4 s σ H6 ∧ Same F1 F4 ∧ Kp b H H6 ∧ Iv (i + 1)) else (i + 1 ≤ ds.length ∧ ∃ F4, Rel X.K L b F4 s σ H5 ∧ Same F1 F4 ∧ Kp b H H5 ∧ Iv (i + 1)))
      (by rw [hK]; exact I4.wipe vs) (by rw [hK]; exact r4) q fun F5 s5 σ5 H5 I5 m5 q5 => ?_) fun σ' H' e q => ⟨e.trans (wipe_idem vs fun _ z => z), q⟩
    rw [hK] at I5
    have back : ∀ {F6 : Hp} {s6 : Sl} {σ6 : L2.St} {H6 : Hp}, Rel X.K L ⟨H3, F3, b.dr⟩ F6 s6 σ6 H6 → Rel X.K L b F6 s σ H6 ∧ Kp b H H6 := fun {F6 s6 σ6 H6} I6 => ⟨I3.back I6.toGrd, fun a o e d t => I6.toGrd.keep a o (k3 a o e d t) d t⟩
    refine ht _ F5 s5 σ5 H5 _ (fun _ => False) _ I5 q5 (fun _ _ _ _ _ z => z.elim) fun F6 z6 H6 I6 m6 k6 q6 => ?_
    have m36 : Same F3 F6 := m4.trans (m5.trans m6)
    cases z6 with
    | false =>
      rw [if_neg Bool.false_ne_true]
      exact ⟨hi, F6, (back I6).1, m3.trans m36, (back I6).2, q6⟩
    | true =>
      rw [if_pos rfl]
      refine he _ F6 s5 σ5 H6 _ (fun _ => False) _ I6 q6 (fun _ _ _ _ _ z => z.elim) fun F7 y v H7 I7 m7 k7 r7 q7 => ?_
      split at q7
      · rename_i z
        cases r7
        refine ⟨z, rfl, ?_⟩
        have q8 := hstp _ _ z q7
        by_cases hz : z = c
        · rw [if_pos hz] at q8 ⊢
          exact kk F7 _ _ H7 (back I7).1 (m1.trans (m3.trans (m36.trans m7))) (back I7).2 (.bl c) q8
        · rw [if_neg hz] at q8 ⊢
          exact ⟨hi, F7, (back I7).1, m3.trans (m36.trans m7), (back I7).2, q8⟩
      · exact q7.elim
  · have e : i = ds.length := by omega
    subst e
    exact .inl ⟨hstop, kk F3 _ _ H3 I3 (m1.trans m3) k3 (.bl _) (ie iv)⟩
end
section
variable {X : Cx} {L : Lw} {W : WX} {cc P : Addr} {elt tg iter : Expr} {ifs : List Expr} {p pos gpos : Pos} {scope : Scope} {own : List (Str × Nat)} {g : TG} {wg : Wg} {wi : TI} {tt : TT} {te : TE} {wl : Wl} {wt : Wt} {we : We} {k : Nat}
theorem fe_all (TB : LamX.TabB X.base X.mg cc P) (hcode : X.env.code = .ref cc) (hP : P ∈ L.tabs) (hN : X.N.Nodup) (hr : Room (k + 1) X.A) (hm : X.mg "all" = none) (hb : bootBuiltins "all" = some (.builtin "all")) (hi : FI X L W tg iter wi wl) (S : FLG.GSc scope) (ok : BlkOk X.N X.env.scope scope own)
    (hg : ∀ (Ag : Around) (s : Shared) (H : Hp) (C : Addr) (cl : List (Str × Addr)) (code : Value) (fp : List Addr) (pn : List (Addr × Obj)), Room k Ag → FGc (FLG.gbx X Ag s H scope (genEnv scope cl C code builtinsNs X.env) fp pn) L (own.map (·.2)) tg g wg)
    (ht : ∀ (Ag : Around) (s : Shared) (H : Hp) (C : Addr) (cl : List (Str × Addr)) (code : Value) (fp : List Addr) (pn : List (Addr × Obj)), Room k Ag → FTs (FLG.gbx X Ag s H scope (genEnv scope cl C code builtinsNs X.env) fp pn) L WF ifs tt wt)
    (he : ∀ (Ag : Around) (s : Shared) (H : Hp) (C : Addr) (cl : List (Str × Addr)) (code : Value) (fp : List Addr) (pn : List (Addr × Obj)), Room k Ag → FE (FLG.gbx X Ag s H scope (genEnv scope cl C code builtinsNs X.env) fp pn) L WF elt te we)
    (hc : X.calm = true := by rfl) (hgl : Gl X "all" := by rfl) (hs : ∀ v, genFold iter X.env v = pure v := by intro _; rfl) (hst : starEach [FLG.genX elt tg iter ifs scope gpos] X.env = (false, eval (FLG.genX elt tg iter ifs scope gpos) X.env) :: starEach [] X.env := by rfl) :
    FE X L W (.Call (.Name "all" p) [.GeneratorExp elt [⟨tg, iter, ifs, 0⟩] scope gpos] [] pos) (FLG.tQt false P wi g tt te (own.map (·.2))) (wAll wl wg wt we (own.map (·.2))) := by
  have rm : ∃ Ag, Room k Ag := ⟨X.A, hr.mono (Nat.le_succ k)⟩
  obtain ⟨Ag, rm⟩ := rm
  exact ⟨FLG.pe_allG hc hN hr hgl hm hb ⟨TB.code, TB.bm, TB.gP⟩ hcode S ok hi.pe (fun Ag s H C cl code fp pn r => (hg Ag s H C cl code fp pn r).pe) (fun Ag s H C cl code fp pn r => (ht Ag s H C cl code fp pn r).pe) (fun Ag s H C cl code fp pn r => (he Ag s H C cl code fp pn r).pe) hs hst,
    snd_qt (c := false) (stp := stpAll) (fun A B z q => by cases z <;> simpa [stpAll] using q) hP hi.snd ⟨_, _, hg Ag X.s_0 X.H_0 0 [] .none [] [] rm, rfl⟩ (ht Ag X.s_0 X.H_0 0 [] .none [] [] rm).snd (he Ag X.s_0 X.H_0 0 [] .none [] [] rm).snd⟩
theorem fe_any (TB : LamX.TabB X.base X.mg cc P) (hcode : X.env.code = .ref cc) (hP : P ∈ L.tabs) (hN : X.N.Nodup) (hr : Room (k + 1) X.A) (hm : X.mg "any" = none) (hb : bootBuiltins "any" = some (.builtin "any")) (hi : FI X L W tg iter wi wl) (S : FLG.GSc scope) (ok : BlkOk X.N X.env.scope scope own)
    (hg : ∀ (Ag : Around) (s : Shared) (H : Hp) (C : Addr) (cl : List (Str × Addr)) (code : Value) (fp : List Addr) (pn : List (Addr × Obj)), Room k Ag → FGc (FLG.gbx X Ag s H scope (genEnv scope cl C code builtinsNs X.env) fp pn) L (own.map (·.2)) tg g wg)
    (ht : ∀ (Ag : Around) (s : Shared) (H : Hp) (C : Addr) (cl : List (Str × Addr)) (code : Value) (fp : List Addr) (pn : List (Addr × Obj)), Room k Ag → FTs (FLG.gbx X Ag s H scope (genEnv scope cl C code builtinsNs X.env) fp pn) L WF ifs tt wt)
    (he : ∀ (Ag : Around) (s : Shared) (H : Hp) (C : Addr) (cl : List (Str × Addr)) (code : Value) (fp : List Addr) (pn : List (Addr × Obj)), Room k Ag → FE (FLG.gbx X Ag s H scope (genEnv scope cl C code builtinsNs X.env) fp pn) L WF elt te we)
    (hc : X.calm = true := by rfl) (hgl : Gl X "any" := by rfl) (hs : ∀ v, genFold iter X.env v = pure v := by intro _; rfl) (hst : starEach [FLG.genX elt tg iter ifs scope gpos] X.env = (false, eval (FLG.genX elt tg iter ifs scope gpos) X.env) :: starEach [] X.env := by rfl) :
    FE X L W (.Call (.Name "any" p) [.GeneratorExp elt [⟨tg, iter, ifs, 0⟩] scope gpos] [] pos) (FLG.tQt true P wi g tt te (own.map (·.2))) (wAny wl wg wt we (own.map (·.2))) := by
  have rm : ∃ Ag, Room k Ag := ⟨X.A, hr.mono (Nat.le_succ k)⟩
  obtain ⟨Ag, rm⟩ := rm
  exact ⟨FLG.pe_anyG hc hN hr hgl hm hb ⟨TB.code, TB.bm, TB.gP⟩ hcode S ok hi.pe (fun Ag s H C cl code fp pn r => (hg Ag s H C cl code fp pn r).pe) (fun Ag s H C cl code fp pn r => (ht Ag s H C cl code fp pn r).pe) (fun Ag s H C cl code fp pn r => (he Ag s H C cl code fp pn r).pe) hs hst,
    snd_qt (c := true) (stp := stpAny) (fun A B z q => by cases z <;> simpa [stpAny] using q) hP hi.snd ⟨_, _, hg Ag X.s_0 X.H_0 0 [] .none [] [] rm, rfl⟩ (ht Ag X.s_0 X.H_0 0 [] .none [] [] rm).snd (he Ag X.s_0 X.H_0 0 [] .none [] [] rm).snd⟩
end
/-! ### plain forms -/
section
variable {wg : Wg} {wt : Wt} {we : We} {vs : List Nat} {ds : List D} {s : Sl}
/-- each test told by p -/
theorem all_by {Q : Bool → Prop} (p : D → Bool) (h : ∀ d ∈ ds, ∀ (A B : Prop), (p d = false → A) → (p d = true → B) → wg d (wipeS (lkS s) vs) fun s2 => wt s2 (fun c => cond c (we s2 (fun y => match y with | .bool z => cond z B A | _ => False) fun _ => False) B) fun _ => False)
    (hq : Q (ds.all p)) : wAllL wg wt we vs ds s Q := by
  refine ⟨fun i => ∀ d ∈ ds.take i, p d = true, by simp, fun i d e iv => ?_, fun iv => ?_⟩
  · refine h d (List.mem_of_getElem? e) _ _ (fun z => ?_) fun z => ?_
    · have : ds.all p = false := by
        rw [List.all_eq_false]
        exact ⟨d, List.mem_of_getElem? e, by rw [z]; decide⟩
      rw [this] at hq; exact hq
    · intro d' hd
      have hi := (List.getElem?_eq_some_iff.mp e).1
      rw [List.take_succ, e] at hd
      rcases List.mem_append.mp hd with hd | hd
      · exact iv d' hd
      · have : d' = d := by simpa using hd
        subst this; exact z
  · replace iv := iv
    dsimp only at iv
    rw [List.take_length] at iv
    have : ds.all p = true := List.all_eq_true.mpr iv
    rw [this] at hq; exact hq
theorem any_by {Q : Bool → Prop} (p : D → Bool) (h : ∀ d ∈ ds, ∀ (A B : Prop), (p d = true → A) → (p d = false → B) → wg d (wipeS (lkS s) vs) fun s2 => wt s2 (fun c => cond c (we s2 (fun y => match y with | .bool z => cond z A B | _ => False) fun _ => False) B) fun _ => False)
    (hq : Q (ds.any p)) : wAnyL wg wt we vs ds s Q := by
  refine ⟨fun i => ∀ d ∈ ds.take i, p d = false, by simp, fun i d e iv => ?_, fun iv => ?_⟩
  · refine h d (List.mem_of_getElem? e) _ _ (fun z => ?_) fun z => ?_
    · have : ds.any p = true := by
        rw [List.any_eq_true]
        exact ⟨d, List.mem_of_getElem? e, z⟩
      rw [this] at hq; exact hq
    · intro d' hd
      rw [List.take_succ, e] at hd
      rcases List.mem_append.mp hd with hd | hd
      · exact iv d' hd
      · have : d' = d := by simpa using hd
        subst this; exact z
  · replace iv := iv
    dsimp only at iv
    rw [List.take_length] at iv
    have : ds.any p = false := by
      rw [List.any_eq_false]
      intro d hd; rw [iv d hd]; decide
    rw [this] at hq; exact hq
/-- each item gives one or none -/
theorem lc_fm {Q : List D → Prop} (f : D → Option D) (hl : ds.length ≤ sizeLine)
    (h : ∀ d ∈ ds, ∀ (acc : List D) (J : List D → Prop), (f d = none → J acc) → (∀ y, f d = some y → acc.length < sizeLine ∧ J (acc ++ [y])) → wg d (wipeS (lkS s) vs) fun s2 => wt s2 (fun c => cond c (we s2 (fun y => acc.length < sizeLine ∧ J (acc ++ [y])) fun _ => False) (J acc)) fun _ => False)
    (hq : Q (ds.filterMap f)) : wLcL wg wt we vs ds s Q := by
  refine ⟨fun i acc => acc = (ds.take i).filterMap f, by simp, fun i d acc e iv => ?_, fun acc iv => ?_⟩
  · have hi := (List.getElem?_eq_some_iff.mp e).1
    refine h d (List.mem_of_getElem? e) acc (fun a => a = (ds.take (i + 1)).filterMap f) (fun z => ?_) fun y z => ⟨?_, ?_⟩
    · rw [List.take_succ, e, iv]; simp [z]
    · rw [iv]
      refine Nat.lt_of_le_of_lt (List.length_filterMap_le _ _) ?_
      rw [List.length_take]; omega
    · rw [List.take_succ, e, iv]; simp [z]
  · dsimp only at iv
    rw [List.take_length] at iv
    rw [iv]; exact hq
theorem lc_map {Q : List D → Prop} (f : D → D) (hl : ds.length ≤ sizeLine)
    (h : ∀ d ∈ ds, ∀ (acc : List D) (J : List D → Prop), acc.length < sizeLine ∧ J (acc ++ [f d]) → wg d (wipeS (lkS s) vs) fun s2 => wt s2 (fun c => cond c (we s2 (fun y => acc.length < sizeLine ∧ J (acc ++ [y])) fun _ => False) (J acc)) fun _ => False)
    (hq : Q (ds.map f)) : wLcL wg wt we vs ds s Q :=
  lc_fm (fun d => some (f d)) hl (fun d hd acc J _ h2 => h d hd acc J (h2 _ rfl)) (by rw [← List.filterMap_eq_map] at hq; exact hq)
theorem lc_filter {Q : List D → Prop} (p : D → Bool) (hl : ds.length ≤ sizeLine)
    (h : ∀ d ∈ ds, ∀ (acc : List D) (J : List D → Prop), (p d = false → J acc) → (p d = true → acc.length < sizeLine ∧ J (acc ++ [d])) → wg d (wipeS (lkS s) vs) fun s2 => wt s2 (fun c => cond c (we s2 (fun y => acc.length < sizeLine ∧ J (acc ++ [y])) fun _ => False) (J acc)) fun _ => False)
    (hq : Q (ds.filter p)) : wLcL wg wt we vs ds s Q := by
  refine lc_fm (fun d => if p d = true then some d else none) hl (fun d hd acc J h1 h2 => h d hd acc J (fun z => h1 (by simp [z])) fun z => h2 d (by simp [z])) ?_
  rw [show ds.filterMap (fun d => if p d = true then some d else none) = ds.filter p from by rw [← List.filterMap_eq_filter]; rfl]
  exact hq
end
section
variable {c : Cel} {s : Sl} {Q : D → Prop} {R : Value → Prop}
theorem u_wipe0 {s : Sl} : wipeS s [] = s := rfl
theorem u_wipe1 {s : Sl} {v : Nat} {vs : List Nat} : wipeS s (v :: vs) = (wipeS s vs).set v .no := rfl
theorem u_lk0 : lkS [] = [] := rfl
theorem u_lk1 : lkS (c :: s) = lkC c :: lkS s := rfl
end
/-- the end, its tables told by what the top has left -/
theorem walk_ofTt {l : PySem.W.OpenLaw} {n k : Nat} {q : Program} {loose : List Str} {XP : (Str → Option Value) → Heap → Prop} {YP : World → Heap → Prop} {d : DefRec} {K : Params → PySem.W.Frag} {CX : World → CXT} {x : Str}
    (hn : l.most = some n) (hn2 : n ≤ sizeLine) (hdf : d.params.defaults = []) (hr : Room k callerA) (hY : ∀ (w : World) (h : Heap), YP w h → (K w.params).In h)
    (F : ∀ (w : World) (mg mb : Str → Option Value) (fa : Addr) (h : Heap) (mean : ExcName → Option Value), YP w h → (K w.params).In h → Top q (PySem.W.looseW q loose) mean mg mb h → h.Ns mainGlobals mg → mg d.name = some (.ref fa) → LamX.LawAtS l w (K w.params) (CX w) k n x mg fa h)
    (hCX : ∀ (w : World) (H : Hp) (s : Shared) (e : Value) (s' : Shared), CX w [] H s (fun _ _ _ => False) e s' → False) :
    PySem.W.WalkO q loose XP YP l.row.toRowW d [] (fun f vs => PySem.call f vs) := by
  refine Att.attach_callB hn hdf fun w s₀ s₁ mg mb fa o pm cd doc a vs ns G Y ho hd hcd hmg hobj hints hlen hbits hg => ?_
  have KX := hY w _ Y
  obtain ⟨fd, cs, sp, hT, nT, C, hb, hsp, hF⟩ := F w mg mb fa _ _ Y KX G.T G.T.g hmg
  exact LamX.law_callTs KX G.T.g G.T.b G.T.builtins G.T.nolimit hg hT nT C G.T.bmain hobj hints (Nat.le_trans hlen hn2) hr hF hb (fun H hH hS => hsp H a ns hlen hbits hH hS) fun H e s' => hCX w H s₁ e s'
end FL

/-! FL14: slices, repetition, in, sums, stars, items written. -/
namespace FL
open PySem PySem.Spec PyProof.Rows L2
/-! ### slices -/
abbrev Wo := Sl → (Option Int → Prop) → (Value → Prop) → Prop
structure FO (X : Cx) (L : Lw) (W : WX) (e : Option Expr) (t : TO) (w : Wo) : Prop where
  pe : PO X e t
  snd : ∀ (b : Beg) (F : Hp) (s : Sl) (σ : L2.St) (H : Hp) (Q : Option Int → Prop) (R : Value → Prop) (k : Option Int → Hp → Prop), Rel X.K L b F s σ H → w s Q R → Exw X.K L W b F s σ R →
    (∀ F' o H', Rel X.K L b F' s σ H' → Same F F' → Kp b H H' → Q o → k o H') → t σ H k
def wO0 : Wo := fun _ Q _ => Q none
def wO1 (wa : We) : Wo := fun s Q R => wa s (fun d => match d with | .int i => Q (some i) | _ => False) R
def cutL {α : Type} (xs : List α) (lo hi : Option Int) : List α := (xs.drop (HT.sIx xs.length 0 lo)).take (HT.sIx xs.length xs.length hi - HT.sIx xs.length 0 lo)
def dSl : D → Option Int → Option Int → (D → Prop) → Prop := fun d lo hi Q => match d with
  | .list ds => Q (.list (cutL ds lo hi))
  | .tuple ds => Q (.tuple (cutL ds lo hi))
  | .str z => z.length ≤ sizeLine ∧ Q (.str (cutS z lo hi))
  | _ => False
def wSl (wa : We) (wl wh : Wo) : We := fun s Q R => wa s (fun d => wl s (fun lo => wh s (fun hi => dSl d lo hi Q) R) R) R
def wSlN (wa : We) (wl wh : Wo) : Wl := fun s Q R => wa s (fun d => wl s (fun lo => wh s (fun hi => match d with | .list ds => Q (cutL ds lo hi) | _ => False) R) R) R
abbrev rSlD (K : PySem.W.Frag) : V → Option Int → Option Int → Hp → VK → Prop := fun x lo hi H Q => rSlL K x lo hi H Q ∨ (rSlA K x lo hi H Q ∨ rSlS x lo hi H Q)
theorem cutL_le {α : Type} (xs : List α) (lo hi : Option Int) : (cutL xs lo hi).length ≤ xs.length := by
  unfold cutL
  rw [List.length_take, List.length_drop]
  omega
section
variable {X : Cx} {L : Lw} {W : WX} {pos p p2 : Pos} {a c e : Expr} {ta tb te : TE} {wa wb we : We} {lo hi : Option Expr} {tl th : TO} {ol oh : Wo} {es : List Expr} {t : TA} {wl : Wl}
theorem fo_none : FO X L W none tNoPart wO0 := ⟨po_none, fun b F s σ H Q R k I h hx kk => kk F none H I (Same.refl F) Kp.refl h⟩
theorem fo_some (h : FE X L W a ta wa) : FO X L W (some a) (tPart ta) (wO1 wa) := by
  refine ⟨po_some h.pe, fun b F s σ H Q R k I q hx kk => ?_⟩
  refine h.snd b F s σ H _ R _ I q hx fun F1 d v H1 I1 m1 k1 r1 q1 => ?_
  split at q1
  · cases r1
    exact ⟨_, rfl, kk F1 _ H1 I1 m1 k1 q1⟩
  · exact q1.elim
theorem dps_cut {K : PySem.W.Frag} {H : Hp} {vs : List V} {ds : List D} (h : DtAll K H vs ds) (lo hi : Option Int) : DtAll K H (cutV vs lo hi) (cutL ds lo hi) := by
  unfold cutV cutL
  rw [dps_len h]
  exact dps_take _ (dps_drop _ h)
theorem fe_sl (ha : FB X L W a ta wa) (hl : FO X L W lo tl ol) (hh : FO X L W hi th oh) : FE X L W (.Subscript a (.Slice lo hi none p2) pos) (tSl (rSlD X.K) ta tl th) (wSl wa ol oh) := by
  refine ⟨pe_slice (sl_list.or (sl_tupA.or sl_str)) ha.pe hl.pe hh.pe, fun b F s σ H Q R k I h hx kk => ?_⟩
  refine ha.snd b F s σ H _ R _ I h hx fun F1 d v H1 I1 m1 k1 r1 h1 => ?_
  refine hl.snd b F1 s σ H1 _ R _ I1 h1 (hx.mono m1) fun F2 lo H2 I2 m2 k2 h2 => ?_
  refine hh.snd b F2 s σ H2 _ R _ I2 h2 (hx.mono (m1.trans m2)) fun F3 hi H3 I3 m3 k3 h3 => ?_
  have r3 := r1.keep (m2.trans m3) (k2.trans k3)
  have m := m1.trans (m2.trans m3)
  have kp := k1.trans (k2.trans k3)
  unfold dSl at h3
  split at h3
  · rename_i ds
    have lay : ∀ {vs : List V}, DtAll X.K F3 vs ds → ∀ z, H3 z = none → k (.ref z) (upd H3 z (.lst (cutV vs lo hi))) := fun {vs} r z hz =>
      kk _ _ _ _ (I3.new1 hz (fun ps y => by cases y)) (m.trans (same_upd (I3.f_none hz))) (kp.trans (Kp.of (same_upd hz))) (.lst (.inl (.inl upd_same)) (dps_mono (same_upd (I3.f_none hz)) (dps_cut r lo hi))) h3
    rcases r3 with r3 | ⟨x, vs, ds', rfl, e2, e3, e4, e5⟩
    · cases r3 with
      | lst q1 q2 => exact .inl ⟨_, _, rfl, I3.sub.seq q1, lay q2⟩
    · cases e2
      exact .inl ⟨_, _, rfl, .inl (.inl e4), lay e5⟩
  · rename_i ds
    rcases r3 with r3 | ⟨x, vs, ds', rfl, e2, e3, e4, e5⟩
    · cases r3 with
      | tup q1 q2 =>
        rename_i x vs
        refine .inr (.inl ⟨_, _, rfl, same_sqT I3.sub q1, fun e => ?_, fun e z hz => ?_⟩)
        · rw [dps_len q2] at e
          refine kk F3 _ _ H3 I3 m kp (.tup q1 q2) ?_
          have : cutL ds lo hi = ds := by
            unfold cutL
            rw [e.1, e.2, List.drop_zero, Nat.sub_zero, List.take_length]
          rw [this] at h3; exact h3
        · exact kk _ _ _ _ (I3.new1 hz (fun ps y => by cases y)) (m.trans (same_upd (I3.f_none hz))) (kp.trans (Kp.of (same_upd hz))) (.tup (.inl (.inl upd_same)) (dps_mono (same_upd (I3.f_none hz)) (dps_cut q2 lo hi))) h3
    · cases e2
  · rcases r3 with r3 | ⟨x, vs, ds', rfl, e2, e3, e4, e5⟩
    · cases r3
      exact .inr (.inr ⟨_, rfl, h3.1, kk F3 _ _ H3 I3 m kp (.str _) h3.2⟩)
    · cases e2
  · exact h3.elim
theorem fn_sl (ha : FB X L W a ta wa) (hl : FO X L W lo tl ol) (hh : FO X L W hi th oh) : FN X L W (.Subscript a (.Slice lo hi none p2) pos) (tSl (rSlL X.K) ta tl th) (wSlN wa ol oh) := by
  refine ⟨pe_slice sl_list ha.pe hl.pe hh.pe, fun b F s σ H Q R k I h hx kk => ?_⟩
  refine ha.snd b F s σ H _ R _ I h hx fun F1 d v H1 I1 m1 k1 r1 h1 => ?_
  refine hl.snd b F1 s σ H1 _ R _ I1 h1 (hx.mono m1) fun F2 lo H2 I2 m2 k2 h2 => ?_
  refine hh.snd b F2 s σ H2 _ R _ I2 h2 (hx.mono (m1.trans m2)) fun F3 hi H3 I3 m3 k3 h3 => ?_
  have r3 := r1.keep (m2.trans m3) (k2.trans k3)
  split at h3
  · rename_i ds
    have lay : ∀ {vs : List V}, DtAll X.K F3 vs ds → ∀ z, H3 z = none → k (.ref z) (upd H3 z (.lst (cutV vs lo hi))) := fun {vs} r z hz =>
      kk F3 _ z _ _ (I3.lay hz) (m1.trans (m2.trans m3)) ((k1.trans (k2.trans k3)).trans (Kp.of (same_upd hz))) (fresh_at I3 hz) upd_same (dps_cut r lo hi) h3
    rcases r3 with r3 | ⟨x, vs, ds', rfl, e2, e3, e4, e5⟩
    · cases r3 with
      | lst q1 q2 => exact ⟨_, _, rfl, I3.sub.seq q1, lay q2⟩
    · cases e2
      exact ⟨_, _, rfl, .inl (.inl e4), lay e5⟩
  · exact h3.elim
/-! ### [..] * n, (..) * n -/
def wRepN (wl : Wl) (wb : We) : Wl := fun s Q R => wl s (fun ds => wb s (fun y => match y with | .int n => n < 2 ^ 62 ∧ -(2 ^ 62) ≤ n ∧ ds.length * n.toNat ≤ sizeLine ∧ Q (List.replicate n.toNat ds).flatten | _ => False) R) R
theorem dps_rep {K : PySem.W.Frag} {H : Hp} {vs : List V} {ds : List D} (h : DtAll K H vs ds) : ∀ n : Nat, DtAll K H (List.replicate n vs).flatten (List.replicate n ds).flatten
  | 0 => .nil
  | n + 1 => by
    rw [List.replicate_succ, List.replicate_succ, List.flatten_cons, List.flatten_cons]
    exact dps_app h (dps_rep h n)
theorem fn_rep (ha : FN X L W a ta wl) (hb : FE X L W c tb wb) : FN X L W (.BinOp a .Mult c pos) (tOp rRep ta tb) (wRepN wl wb) := by
  refine ⟨pe_op op_rep ha.pe hb.pe, fun b F s σ H Q R k I h hx kk => ?_⟩
  refine ha.snd b F s σ H _ R _ I h hx fun F1 ds q vs H1 I1 m1 k1 fr e1 r1 h1 => ?_
  refine hb.snd b F1 s σ H1 _ R _ I1 h1 (hx.mono m1) fun F2 d2 v2 H2 I2 m2 k2 r2 h2 => ?_
  split at h2
  · cases r2
    have e2 := k2 q _ e1 fr.hd fun ps z => by cases z
    have r3 := dps_mono m2 r1
    refine ⟨q, _, vs, rfl, rfl, e2, by omega, by omega, by rw [dps_len r3]; exact h2.2.2.1, fun z hz => ?_⟩
    exact kk F2 _ z _ _ (I2.lay hz) (m1.trans m2) ((k1.trans k2).trans (Kp.of (same_upd hz))) (fresh_at I2 hz) upd_same (dps_rep r3 _) h2.2.2.2
  · exact h2.elim
def wRepT (wa wb : We) : We := fun s Q R => wa s (fun x => wb s (fun y => match x, y with | .tuple ds, .int n => ds ≠ [] ∧ 2 ≤ n ∧ n ≤ 1000 ∧ ds.length ≤ 1000 ∧ Q (.tuple (List.replicate n.toNat ds).flatten) | _, _ => False) R) R
theorem fe_repT (ha : FE X L W a ta wa) (hb : FE X L W c tb wb) : FE X L W (.BinOp a .Mult c pos) (tOp (rRepT X.K) ta tb) (wRepT wa wb) := by
  refine ⟨pe_op op_repT ha.pe hb.pe, fun b F s σ H Q R k I h hx kk => ?_⟩
  refine ha.snd b F s σ H _ R _ I h hx fun F1 d v H1 I1 m1 k1 r1 h1 => ?_
  refine hb.snd b F1 s σ H1 _ R _ I1 h1 (hx.mono m1) fun F2 d2 v2 H2 I2 m2 k2 r2 h2 => ?_
  split at h2
  · cases r2
    cases r1 with
    | tup q1 q2 =>
      obtain ⟨n0, n1, n2, n3, q⟩ := h2
      have r3 := dps_mono m2 q2
      refine ⟨_, _, _, rfl, rfl, same_sqT I2.sub (same_sqT m2 q1), fun z => n0 ?_, n1, n2, by rw [dps_len r3]; exact n3, fun z hz => ?_⟩
      · have := dps_len r3
        rw [z] at this
        exact List.eq_nil_of_length_eq_zero this.symm
      · exact kk _ _ _ _ (I2.new1 hz (fun ps y => by cases y)) ((m1.trans m2).trans (same_upd (I2.f_none hz))) ((k1.trans k2).trans (Kp.of (same_upd hz))) (.tup (.inl (.inl upd_same)) (dps_mono (same_upd (I2.f_none hz)) (dps_rep r3 _))) q
  · exact h2.elim
/-! ### in, not in -/
/-- among the items of a list, laid as data -/
def inOk (d : D) (ds : List D) : Prop := SeqAt.shaped d = true ∧ SeqAt.shaped (.list ds) = true
def inD (d : D) (ds : List D) : Bool := ds.any fun z => PyData.eqv z d
def flatD : D → Bool
  | .none => true
  | .bool _ => true
  | .int _ => true
  | .str _ => true
  | _ => false
def dIn (f : Bool → Bool) : D → D → (Bool → Prop) → Prop := fun d e Q => match e with
  | .list ds => inOk d ds ∧ Q (f (inD d ds))
  | .tuple ds => (flatD d = true ∧ ds.all flatD = true) ∧ Q (f (inD d ds))
  | _ => False
abbrev rInA (K : PySem.W.Frag) : R2 := fun x y H Q => rInD K x y H Q ∨ rIn K false x y H Q
abbrev rNotInA (K : PySem.W.Frag) : R2 := fun x y H Q => rNotInD K x y H Q ∨ rIn K true x y H Q
theorem op_inA {k : Nat} (hr : Room k X.A) : OpR X (compareOp .In) (rInA X.K) := (op_inD (by have := hr.un; omega)).or op_in_seq
theorem op_notInA {k : Nat} (hr : Room k X.A) : OpR X (compareOp .NotIn) (rNotInA X.K) := (op_notInD (by have := hr.un; omega)).or op_notIn_seq
theorem flat_of {K : PySem.W.Frag} {H : Hp} {x : V} {d : D} (h : Dt K H x d) (f : flatD d = true) : flatV x = true := by
  cases h with
  | lst _ _ => cases f
  | tup _ _ => cases f
  | _ => rfl
theorem eqv_flat {K : PySem.W.Frag} {H : Hp} {x y : V} {d e : D} (hx : Dt K H x d) (hy : Dt K H y e) (fx : flatD d = true) (fy : flatD e = true) : eqV x y = PyData.eqv d e := by
  cases hx with
  | lst _ _ => cases fx
  | tup _ _ => cases fx
  | _ =>
    cases hy with
    | lst _ _ => cases fy
    | tup _ _ => cases fy
    | _ => first | rfl | (rw [PyData.eqv]; rfl) | (simp [PyData.eqv, eqV])
theorem in_flat {K : PySem.W.Frag} {H : Hp} {x : V} {d : D} (hx : Dt K H x d) (fx : flatD d = true) : ∀ {vs : List V} {ds : List D}, DtAll K H vs ds → ds.all flatD = true → vs.all flatV = true ∧ inV x vs = inD d ds
  | _, [], h, _ => by cases h; exact ⟨rfl, rfl⟩
  | _, e :: ds, h, f => by
    cases h with
    | cons h1 h2 =>
      rw [List.all_cons, Bool.and_eq_true] at f
      obtain ⟨g1, g2⟩ := in_flat hx fx h2 f.2
      refine ⟨by rw [List.all_cons, g1, flat_of h1 f.1]; rfl, ?_⟩
      unfold inV inD at g2 ⊢
      rw [List.any_cons, List.any_cons, g2, eqv_flat h1 hx f.1 fx]
theorem snd_in {f : Bool → Bool} {r : R2} (hr : ∀ (H : Hp) (x y : V) (d : D) (ds : List D) (Q : VK), Dt X.K H x d → Dt X.K H y (.list ds) → inOk d ds → Q (.bl (f (inD d ds))) H → r x y H Q)
    (ht : ∀ (H : Hp) (x : V) (a : Addr) (vs : List V) (d : D) (ds : List D) (Q : VK), Dt X.K H x d → SqT X.K H a vs → DtAll X.K H vs ds → flatD d = true → ds.all flatD = true → Q (.bl (f (inD d ds))) H → r x (.ref a) H Q)
    (b : Beg) (F : Hp) (s : Sl) (σ : L2.St) (H : Hp) (x y : V) (d e : D) (Q : Bool → Prop) (k : VK) (I : Rel X.K L b F s σ H) (hx : DpB X.K b F H x d) (hy : DpB X.K b F H y e) (q : dIn f d e Q) (kk : ∀ c, Q c → k (.bl c) H) : r x y H k := by
  unfold dIn at q
  split at q
  · exact hr H x y d _ k (hx.at I.sub) (hy.at I.sub) q.1 (kk _ q.2)
  · have hy' := hy.at I.sub
    cases hy' with
    | tup q1 q2 => exact ht H x _ _ d _ k (hx.at I.sub) q1 q2 q.1.1 q.1.2 (kk _ q.2)
  · exact q.elim
theorem fe_in {k : Nat} (hr : Room k X.A) (ha : FE X L W a ta wa) (hb : FB X L W c tb wb) (hm : behindInMarks .In c = false := by rfl) : FE X L W (.Compare a [.In] [c] pos) (tOp (rInA X.K) ta tb) (wCmpV (dIn fun b => b) wa wb) := by
  refine ⟨pe_cmpR (op_inA hr) ha.pe hb.pe hm, fun b F s σ H Q R k I h hx kk => ?_⟩
  refine ha.snd b F s σ H _ R _ I h hx fun F1 d1 v1 H1 I1 m1 k1 r1 h1 => ?_
  refine hb.snd b F1 s σ H1 _ R _ I1 h1 (hx.mono m1) fun F2 d2 v2 H2 I2 m2 k2 r2 h2 => ?_
  exact snd_in (f := fun b => b) (fun H x y d ds Q h1 h2 h3 q => .inl ⟨d, ds, dt_dp h1, dt_dp h2, h3.1, h3.2, q⟩) (fun H x a vs d ds Q h1 h2 h3 f1 f2 q => .inr ⟨a, vs, rfl, .inr h2, flat_of h1 f1, (in_flat h1 f1 h3 f2).1, by first | (rw [if_neg (by decide), (in_flat h1 f1 h3 f2).2]; exact q) | (rw [if_pos rfl, (in_flat h1 f1 h3 f2).2]; exact q)⟩) b F2 s σ H2 v1 v2 d1 d2 _ k I2 (.inl (dp_mono m2 r1)) r2 h2 fun z q => kk F2 _ _ H2 I2 (m1.trans m2) (k1.trans k2) (.bl z) q
theorem fe_notin {k : Nat} (hr : Room k X.A) (ha : FE X L W a ta wa) (hb : FB X L W c tb wb) (hm : behindInMarks .NotIn c = false := by rfl) : FE X L W (.Compare a [.NotIn] [c] pos) (tOp (rNotInA X.K) ta tb) (wCmpV (dIn fun b => !b) wa wb) := by
  refine ⟨pe_cmpR (op_notInA hr) ha.pe hb.pe hm, fun b F s σ H Q R k I h hx kk => ?_⟩
  refine ha.snd b F s σ H _ R _ I h hx fun F1 d1 v1 H1 I1 m1 k1 r1 h1 => ?_
  refine hb.snd b F1 s σ H1 _ R _ I1 h1 (hx.mono m1) fun F2 d2 v2 H2 I2 m2 k2 r2 h2 => ?_
  exact snd_in (f := fun b => !b) (fun H x y d ds Q h1 h2 h3 q => .inl ⟨d, ds, dt_dp h1, dt_dp h2, h3.1, h3.2, q⟩) (fun H x a vs d ds Q h1 h2 h3 f1 f2 q => .inr ⟨a, vs, rfl, .inr h2, flat_of h1 f1, (in_flat h1 f1 h3 f2).1, by first | (rw [if_neg (by decide), (in_flat h1 f1 h3 f2).2]; exact q) | (rw [if_pos rfl, (in_flat h1 f1 h3 f2).2]; exact q)⟩) b F2 s σ H2 v1 v2 d1 d2 _ k I2 (.inl (dp_mono m2 r1)) r2 h2 fun z q => kk F2 _ _ H2 I2 (m1.trans m2) (k1.trans k2) (.bl z) q
theorem ft_in {k : Nat} (hr : Room k X.A) (ha : FE X L W a ta wa) (hb : FB X L W c tb wb) (hm : behindInMarks .In c = false := by rfl) : FT X L W (.Compare a [.In] [c] pos) (tTest (tOp (rInA X.K) ta tb)) (wCmpT (dIn fun b => b) wa wb) := by
  refine ⟨pt_cmpR (op_inA hr) ha.pe hb.pe hm, fun b F s σ H Q R k I h hx kk => ?_⟩
  refine ha.snd b F s σ H _ R _ I h hx fun F1 d1 v1 H1 I1 m1 k1 r1 h1 => ?_
  refine hb.snd b F1 s σ H1 _ R _ I1 h1 (hx.mono m1) fun F2 d2 v2 H2 I2 m2 k2 r2 h2 => ?_
  exact snd_in (f := fun b => b) (fun H x y d ds Q h1 h2 h3 q => .inl ⟨d, ds, dt_dp h1, dt_dp h2, h3.1, h3.2, q⟩) (fun H x a vs d ds Q h1 h2 h3 f1 f2 q => .inr ⟨a, vs, rfl, .inr h2, flat_of h1 f1, (in_flat h1 f1 h3 f2).1, by first | (rw [if_neg (by decide), (in_flat h1 f1 h3 f2).2]; exact q) | (rw [if_pos rfl, (in_flat h1 f1 h3 f2).2]; exact q)⟩) b F2 s σ H2 v1 v2 d1 d2 _ _ I2 (.inl (dp_mono m2 r1)) r2 h2 fun z q => ⟨z, rfl, kk F2 z H2 I2 (m1.trans m2) (k1.trans k2) q⟩
theorem ft_notin {k : Nat} (hr : Room k X.A) (ha : FE X L W a ta wa) (hb : FB X L W c tb wb) (hm : behindInMarks .NotIn c = false := by rfl) : FT X L W (.Compare a [.NotIn] [c] pos) (tTest (tOp (rNotInA X.K) ta tb)) (wCmpT (dIn fun b => !b) wa wb) := by
  refine ⟨pt_cmpR (op_notInA hr) ha.pe hb.pe hm, fun b F s σ H Q R k I h hx kk => ?_⟩
  refine ha.snd b F s σ H _ R _ I h hx fun F1 d1 v1 H1 I1 m1 k1 r1 h1 => ?_
  refine hb.snd b F1 s σ H1 _ R _ I1 h1 (hx.mono m1) fun F2 d2 v2 H2 I2 m2 k2 r2 h2 => ?_
  exact snd_in (f := fun b => !b) (fun H x y d ds Q h1 h2 h3 q => .inl ⟨d, ds, dt_dp h1, dt_dp h2, h3.1, h3.2, q⟩) (fun H x a vs d ds Q h1 h2 h3 f1 f2 q => .inr ⟨a, vs, rfl, .inr h2, flat_of h1 f1, (in_flat h1 f1 h3 f2).1, by first | (rw [if_neg (by decide), (in_flat h1 f1 h3 f2).2]; exact q) | (rw [if_pos rfl, (in_flat h1 f1 h3 f2).2]; exact q)⟩) b F2 s σ H2 v1 v2 d1 d2 _ _ I2 (.inl (dp_mono m2 r1)) r2 h2 fun z q => ⟨z, rfl, kk F2 z H2 I2 (m1.trans m2) (k1.trans k2) q⟩
/-! ### gcd, sum -/
def dGcd : List D → (D → Prop) → Prop := fun ds Q => match ds with
  | [.int i, .int j] => Q (.int ((Nat.gcd i.natAbs j.natAbs : Nat) : Int))
  | _ => False
theorem fe_gcd {x : Str} (hm : X.mg x = some (.builtin "math.gcd")) (ha : FLs X L W (e :: es) t wl) (hg : Gl X x := by rfl) (hdb : (x == ("__debug__" : Str)) = false := by decide)
    (he : starEach (e :: es) X.env = (false, eval e X.env) :: starEach es X.env := by rfl) (hpl : (backTo pos (starEach es X.env)).any (·.1) = false := by rfl) : FE X L W (.Call (.Name x p) (e :: es) [] pos) (tCB rGcd t) (wCal dGcd wl) := by
  refine ⟨pe_callBfun cr_gcd hg hm ha.pe hdb he hpl, fun b F s σ H Q R k I h hx kk => ?_⟩
  refine ha.snd b F s σ H _ R _ I h hx fun F1 ds vs H1 I1 m1 k1 r1 q => ?_
  unfold dGcd at q
  split at q
  · cases r1 with
    | cons h1 h2 =>
      cases h1
      cases h2 with
      | cons h2 h3 =>
        cases h2
        cases h3
        exact ⟨_, _, rfl, kk F1 _ _ H1 I1 m1 k1 (.int _) q⟩
  · exact q.elim
/-- the ints of a row of ints -/
def intsD : List D → Option (List Int)
  | [] => some []
  | .int i :: ds => (intsD ds).map (i :: ·)
  | _ :: _ => none
theorem intsD_some : ∀ {ds : List D} {ns : List Int}, intsD ds = some ns → ds = ns.map .int
  | [], _, h => by cases h; rfl
  | .int i :: ds, _, h => by
    unfold intsD at h
    cases q : intsD ds with
    | none => rw [q] at h; cases h
    | some ms => rw [q] at h; cases h; rw [List.map_cons, ← intsD_some q]
  | .none :: _, _, h => by cases h
  | .bool _ :: _, _, h => by cases h
  | .str _ :: _, _, h => by cases h
  | .list _ :: _, _, h => by cases h
  | .tuple _ :: _, _, h => by cases h
  | .dict _ :: _, _, h => by cases h
theorem intsD_map : ∀ ns : List Int, intsD (ns.map .int) = some ns
  | [] => rfl
  | n :: ns => by rw [List.map_cons, intsD, intsD_map ns]; rfl
/-- a list of ints, told by them -/
def dIntsL (w : List Int → (D → Prop) → Prop) : D → (D → Prop) → Prop := fun d Q => match d with
  | .list ds => ∃ ns : List Int, ds = ns.map .int ∧ w ns Q
  | _ => False
theorem calb_ints {f : Value} {r : List V → Hp → VK → Prop} {w : List Int → (D → Prop) → Prop} (o : CallR X f r)
    (h : ∀ (F H : Hp) (a : Addr) (ns : List Int) (Q : D → Prop) (k : VK), SqL X.K H a (ns.map V.int) → w ns Q → (∀ c v, (∀ F, Dt X.K F v c) → Q c → k v H) → r [.ref a] H k) : CalB X L f r (dIntsL w) := by
  refine ⟨o, fun b F s σ H v d Q k I hv q kk => ?_⟩
  unfold dIntsL at q
  split at q
  · obtain ⟨ns, rfl, q⟩ := q
    rcases hv with hv | ⟨a, vs, ds', rfl, e2, e3, e4, e5⟩
    · cases hv with
      | lst q1 q2 =>
        have e := dps_ints q2
        subst e
        exact h F H _ ns Q k (I.sub.seq q1) q fun c v r z => kk F c v H I (Same.refl F) Kp.refl (r F) z
    · cases e2
      have e := dps_ints e5
      subst e
      exact h F H _ ns Q k (.inl (.inl e4)) q fun c v r z => kk F c v H I (Same.refl F) Kp.refl (r F) z
  · exact q.elim
theorem cal_sum (hc : X.calm = true := by rfl) : CalB X L (.builtin "sum") (rSum X.K) (dIntsL fun ns Q => Q (.int ns.sum)) :=
  calb_ints (cr_sum hc) fun F H a ns Q k h q kk => ⟨a, ns, rfl, h, kk _ _ (fun _ => .int _) q⟩
def dMaxL : List Int → (D → Prop) → Prop := fun ns Q => 0 < ns.length ∧ ∀ m, m ∈ ns → (∀ y, y ∈ ns → y ≤ m) → Q (.int m)
def dMinL : List Int → (D → Prop) → Prop := fun ns Q => 0 < ns.length ∧ ∀ m, m ∈ ns → (∀ y, y ∈ ns → m ≤ y) → Q (.int m)
theorem cal_max1 (hc : X.calm = true := by rfl) : CalB X L (.builtin "max") (rMax X.K) (dIntsL dMaxL) :=
  calb_ints (cr_max hc) fun F H a ns Q k h q kk => ⟨a, ns, rfl, h, q.1, fun m h1 h2 => kk _ _ (fun _ => .int _) (q.2 m h1 h2)⟩
theorem cal_min1 (hc : X.calm = true := by rfl) : CalB X L (.builtin "min") (rMin X.K) (dIntsL dMinL) :=
  calb_ints (cr_min hc) fun F H a ns Q k h q kk => ⟨a, ns, rfl, h, q.1, fun m h1 h2 => kk _ _ (fun _ => .int _) (q.2 m h1 h2)⟩
/-! ### (*xs, x) -/
def wStar (wa : We) (wr : Wl) : Wl := fun s Q R => wa s (fun d => match d with
  | .list ds => wr s (fun es => Q (ds ++ es)) R
  | .tuple ds => wr s (fun es => Q (ds ++ es)) R
  | _ => False) R
theorem fl_star (ha : FE X L W a ta wa) (hr : FLs X L W es t wl) (hs : starEach (.Starred a p :: es) X.env = (true, eval a X.env) :: starEach es X.env := by rfl) : FLs X L W (.Starred a p :: es) (StX.tStar X.K ta t) (wStar wa wl) := by
  refine ⟨StX.pa_star ha.pe hr.pe hs, fun b F s σ H Q R k I h hx kk => ?_⟩
  refine ha.snd b F s σ H _ R _ I h hx fun F1 d1 v1 H1 I1 m1 k1 r1 h1 => ?_
  split at h1
  · cases r1 with
    | lst q1 q2 => exact ⟨_, _, rfl, .inr (I1.sub.seq q1), hr.snd b F1 s σ H1 _ R _ I1 h1 (hx.mono m1) fun F2 ds vs H2 I2 m2 k2 r2 h2 => kk F2 _ _ H2 I2 (m1.trans m2) (k1.trans k2) (dps_app (dps_mono m2 q2) r2) h2⟩
  · cases r1 with
    | tup q1 q2 => exact ⟨_, _, rfl, .inl (same_sqT I1.sub q1), hr.snd b F1 s σ H1 _ R _ I1 h1 (hx.mono m1) fun F2 ds vs H2 I2 m2 k2 r2 h2 => kk F2 _ _ H2 I2 (m1.trans m2) (k1.trans k2) (dps_app (dps_mono m2 q2) r2) h2⟩
  · exact h1.elim
end
end FL

/-! FL15: items written; draws of the second kind. -/
namespace FL
open PySem PySem.Spec PyProof.Rows L2
section
variable {X : Cx} {L : Lw} {W : WX} {pos p p2 p3 : Pos} {a c e : Expr} {ta tb te : TE} {wa wb we : We} {wl : Wl}
theorem dps_setN {K : PySem.W.Frag} {H : Hp} {vs : List V} {ds : List D} {v : V} {d : D} (h : DtAll K H vs ds) (q : Dt K H v d) (i : Nat) : DtAll K H (vs.set i v) (ds.set i d) := dps_set q i h
/-- xs[i] = v, xs a list of the def's own -/
def wSeti (i : Nat) (wv wi : We) : Ws := fun s E => match s[i]? with
  | some (.ow ds) => wv s (fun d => wi s (fun j => match j with
    | .int j => ∃ n, ixN ds.length j = some n ∧ E.nx (s.set i (.ow (ds.set n d)))
    | _ => False) E.ex) E.ex
  | _ => False
theorem fs_seti (i : Nat) {x : Str} (ha : FE X L W a ta wa) (hi : FE X L W c tb wb) (hN : X.N[i]? = some x := by rfl) (hv : Vis X.env.scope x := by first | exact Or.inl rfl | exact Or.inr (Or.inl rfl) | exact Or.inr (Or.inr rfl)) (hd : (x == ("__debug__" : Str)) = false := by decide)
    (hcd : (x == ("__classdict__" : Str)) = false := by decide)
    (hA : ∀ v, assign (.Subscript (.Name x p) c p2) X.env v = (do
      let ov ← holding [v] (eval (.Name x p) X.env)
      let iv ← holding [v, ov] (eval c X.env)
      standAt p2
      holding [v, ov, iv] (setItem ov iv v)
      release [v, ov, iv] []) := by intro _; rfl)
    (hs : swapsWithSole [.Subscript (.Name x p) c p2] a pos.line X.env = pure false := by rfl) (hw : swappedStores [.Subscript (.Name x p) c p2] a X.env = pure none := by rfl)
    (h1 : (assignEach [.Subscript (.Name x p) c p2] X.env).map (·.2) = [assign (.Subscript (.Name x p) c p2) X.env] := by rfl) :
    FS X L W (.Assign [.Subscript (.Name x p) c p2] a pos) (tAsg ta (gSub (tVar i) tb rSetL)) (wSeti i wa wb) := by
  refine ⟨ps_asg ha.pe (pg_sub (pv i hN hv hd hcd) hi.pe set_list hA) hs hw h1, fun b F s σ H E D' I h ok => ?_⟩
  unfold wSeti at h
  split at h
  · rename_i ds q
    refine ha.snd b F s σ H _ E.ex _ I h ok.exw fun F1 d v H1 I1 m1 k1 r1 q1 => ?_
    obtain ⟨a, vs, e1, _⟩ := slot_ref I1 q
    refine ⟨_, e1, hi.snd b F1 s σ H1 _ E.ex _ I1 q1 (ok.mono m1).exw fun F2 j vj H2 I2 m2 k2 r2 q2 => ?_⟩
    obtain ⟨a', vs', e1', h0, hd1, hf, hh, hs1⟩ := slot_ref I2 q
    rw [e1] at e1'
    cases e1'
    split at q2
    · cases r2
      obtain ⟨n, hn, q3⟩ := q2
      exact ⟨a, vs', _, n, rfl, rfl, hh, by rw [dps_len hs1]; exact hn, ok.nx F2 _ _ _ (I2.grow q e1 (dps_set (dp_mono m2 r1) n hs1)) (m1.trans m2) q3⟩
    · exact q2.elim
  · exact h.elim
theorem ix_lt {n j : Nat} (h : j < n) : ixN n (j : Int) = some j := by
  unfold ixN
  rw [if_pos (by omega), if_pos (by omega)]
  simp
/-- the draws are written -/
theorem Rel.drset {b : Beg} {F : Hp} {s : Sl} {σ : L2.St} {H : Hp} {p : Addr} {vs us : List V} {es : List D} (I : Rel X.K L b F s σ H) (hd : b.dr = some p) (hp : H p = some (.lst vs)) (r : DtAll X.K F us es) (g : L.good es) : Rel X.K L b F s σ (upd H p (.lst us)) := by
  obtain ⟨hf, _⟩ := I.drw p hd
  have nf : ∀ c o, F c = some o → c ≠ p := fun c o h z => by subst z; rw [hf] at h; cases h
  exact {
    sub := fun c o h => by rw [upd_ne (nf c o h)]; exact I.sub c o h
    old := I.old
    new := I.new
    keep := fun c o h d t => by
      have z : c ≠ p := fun z => by subst z; exact d hd
      rw [upd_ne z]; exact I.keep c o h d t
    live := fun c h => I.live c (by
      by_cases z : c = p
      · subst z; rw [upd_same] at h; cases h
      · rw [upd_ne z] at h; exact h)
    drw := fun c h => by
      rw [hd] at h
      cases h
      exact ⟨hf, us, es, upd_same, r, g⟩
    tab := fun P h => by
      obtain ⟨ps, h3, h4⟩ := I.tab P h
      have z : P ≠ p := fun z => by subst z; rw [hp] at h3; cases h3
      exact ⟨ps, by rw [upd_ne z]; exact h3, h4⟩
    ntb := I.ntb
    len := I.len
    slot := fun i c e => by
      have x := I.slot i c e
      cases c with
      | no => trivial
      | fz d => exact x
      | dr => exact x
      | px _ => exact x
      | lk ds =>
        obtain ⟨a, ws, e1, g0, gd, gh, gs⟩ := x
        exact ⟨a, ws, e1, g0, gd, by rw [upd_ne (fun z => gd (by rw [z]; exact hd))]; exact gh, gs⟩
      | ow ds =>
        obtain ⟨a, ws, e1, g0, gd, gf, gh, gs⟩ := x
        exact ⟨a, ws, e1, g0, gd, gf, by rw [upd_ne (fun z => gd (by rw [z]; exact hd))]; exact gh, gs⟩
    apart := I.apart }
theorem dr_slot {b : Beg} {F : Hp} {s : Sl} {σ : L2.St} {H : Hp} {i : Nat} (I : Rel X.K L b F s σ H) (q : s[i]? = some .dr) : ∃ p vs ds, σ[i]? = some (some (.ref p)) ∧ b.dr = some p ∧ H p = some (.lst vs) ∧ DtAll X.K F vs ds ∧ L.good ds := by
  obtain ⟨p, e1, e2⟩ := I.slot i _ q
  have hi : i < σ.length := by rw [I.len]; exact (List.getElem?_eq_some_iff.mp q).1
  have e3 : σ[i]? = some (some (.ref p)) := by
    rw [List.getD_eq_getElem?_getD, List.getElem?_eq_getElem hi] at e1
    rw [List.getElem?_eq_getElem hi]; exact congrArg some e1
  obtain ⟨_, vs, ds, h1, h2, h3⟩ := I.drw p e2
  exact ⟨p, vs, ds, e3, e2, h1, h2, h3⟩
/-- draws that the def unpacks -/
def wUnDr (i : Nat) (wgs : List D → Sl → (Sl → Prop) → Prop) (n : Nat) (good : List D → Prop) : Ws := fun s E => match s[i]? with
  | some .dr => ∀ ds, good ds → ds.length = n ∧ wgs ds s E.nx
  | _ => False
theorem fs_unDr (i : Nat) {x : Str} {n kk : Nat} {tgs : List Expr} {gs : TGs} {wgs : List D → Sl → (Sl → Prop) → Prop} {tp : Pos} (hc : X.calm = true) (hg : FGs X L tgs gs wgs) (hN : X.N[i]? = some x := by rfl) (hv : Vis X.env.scope x := by first | exact Or.inl rfl | exact Or.inr (Or.inl rfl) | exact Or.inr (Or.inr rfl)) (hd : (x == ("__debug__" : Str)) = false := by decide)
    (hcd : (x == ("__classdict__" : Str)) = false := by decide) (hn : (assignEach tgs X.env).length = n := by rfl) (hst : (assignEach tgs X.env).findIdx? (·.1) = none := by rfl)
    (hs : swapsWithSole [.Tuple tgs kk tp] (.Name x p) pos.line X.env = pure false := by rfl) (hw : swappedStores [.Tuple tgs kk tp] (.Name x p) X.env = pure none := by rfl)
    (h1 : (assignEach [.Tuple tgs kk tp] X.env).map (·.2) = [assign (.Tuple tgs kk tp) X.env] := by rfl) :
    FS X L W (.Assign [.Tuple tgs kk tp] (.Name x p) pos) (tAsg (tVar i) (gLst X.K n gs)) (wUnDr i wgs n L.good) := by
  refine ⟨ps_asg (pv i hN hv hd hcd) (pg_lst hc hg.pe hn hst) hs hw h1, fun b F s σ H E D' I h ok => ?_⟩
  unfold wUnDr at h
  split at h
  · rename_i q
    obtain ⟨a, vs, ds, e1, e2, e3, e4, e5⟩ := dr_slot I q
    obtain ⟨h2, h3⟩ := h ds e5
    exact ⟨_, e1, a, vs, rfl, .inl (.inl e3), by rw [dps_len e4]; exact h2, hg.snd b F s σ H vs ds _ _ I e4 h3 fun F2 s2 σ2 H2 I2 m2 z => ok.nx F2 s2 σ2 H2 I2 m2 z⟩
  · exact h.elim
/-- draws[j] = v -/
def wSetDr (i : Nat) (j : Nat) (good : List D → Prop) (wv : We) : Ws := fun s E => match s[i]? with
  | some .dr => wv s (fun d => (∀ ds, good ds → j < ds.length ∧ good (ds.set j d)) ∧ E.nx s) E.ex
  | _ => False
theorem fs_setDr (i j : Nat) {x : Str} {kj : Nat} {pj : Pos} (ha : FE X L W a ta wa) (hN : X.N[i]? = some x := by rfl) (hv : Vis X.env.scope x := by first | exact Or.inl rfl | exact Or.inr (Or.inl rfl) | exact Or.inr (Or.inr rfl)) (hd : (x == ("__debug__" : Str)) = false := by decide)
    (hcd : (x == ("__classdict__" : Str)) = false := by decide)
    (hA : ∀ v, assign (.Subscript (.Name x p) (.Constant (.int (j : Int)) kj pj) p2) X.env v = (do
      let ov ← holding [v] (eval (.Name x p) X.env)
      let iv ← holding [v, ov] (eval (.Constant (.int (j : Int)) kj pj) X.env)
      standAt p2
      holding [v, ov, iv] (setItem ov iv v)
      release [v, ov, iv] []) := by intro _; rfl)
    (hs : swapsWithSole [.Subscript (.Name x p) (.Constant (.int (j : Int)) kj pj) p2] a pos.line X.env = pure false := by rfl) (hw : swappedStores [.Subscript (.Name x p) (.Constant (.int (j : Int)) kj pj) p2] a X.env = pure none := by rfl)
    (h1 : (assignEach [.Subscript (.Name x p) (.Constant (.int (j : Int)) kj pj) p2] X.env).map (·.2) = [assign (.Subscript (.Name x p) (.Constant (.int (j : Int)) kj pj) p2) X.env] := by rfl) :
    FS X L W (.Assign [.Subscript (.Name x p) (.Constant (.int (j : Int)) kj pj) p2] a pos) (tAsg ta (gSub (tVar i) (tC (.int (j : Int))) rSetL)) (wSetDr i j L.good wa) := by
  refine ⟨ps_asg ha.pe (pg_sub (pv i hN hv hd hcd) pe_int set_list hA) hs hw h1, fun b F s σ H E D' I h ok => ?_⟩
  unfold wSetDr at h
  split at h
  · rename_i q
    refine ha.snd b F s σ H _ E.ex _ I h ok.exw fun F1 d v H1 I1 m1 k1 r1 q1 => ?_
    obtain ⟨a, vs, ds, e1, e2, e3, e4, e5⟩ := dr_slot I1 q
    obtain ⟨h2, h3⟩ := q1.1 ds e5
    exact ⟨_, e1, a, vs, _, j, rfl, rfl, e3, ix_lt (by rw [dps_len e4]; exact h2), ok.nx F1 _ _ _ (I1.drset e2 e3 (dps_set r1 j e4) h3) m1 q1.2⟩
  · exact h.elim
end
/-! ### draws of the second kind: [turn, left, cells] -/
def goodB (ds : List D) : Prop := ∃ (t l : Int) (cs : List Int), ds = [.int t, .int l, .list (cs.map .int)] ∧ 0 ≤ t ∧ 0 ≤ l ∧ cs ≠ [] ∧ cs.length ≤ 64 ∧ ∀ c ∈ cs, 0 ≤ c
def lwB (tabs : List Addr) : Lw := ⟨tabs, goodB⟩
def spDraw : Fs := fun cs q _ => match cs with
  | [.dr, .fz (.int n)] => (0 < n ∧ DivOk n) ∧ ∀ v : Int, 0 ≤ v → v < n → q (.int v)
  | _ => False
/-! ### constants of the top -/
def GC (K : PySem.W.Frag) (mg : Str → Option Value) (x : Str) (d : D) : Prop := ∃ (v : V) (u : Value), mg x = some u ∧ RelV v u ∧ Dt K (fun _ => none) v d
theorem fe_glb {X : Cx} {L : Lw} {W : WX} {x : Str} {d : D} {pos : Pos} (h : GC X.K X.mg x d) (hg : Gl X x := by rfl) (hd : (x == ("__debug__" : Str)) = false := by decide) : FE X L W (.Name x pos) (tC (Classical.choose h)) (wC d) :=
  let ⟨_, hm, r, hp⟩ := Classical.choose_spec h
  fe_glob hg hm r hp hd
end FL

/-! FL16: min, max, sorted of alike data. -/
namespace FL
open PySem PySem.Spec PyProof.Rows L2
mutual
theorem reads_uniq {h : Heap} : ∀ {d d' : PyData} {v : Value} {as as' : List Addr}, PySem.W.alike d d = true → Reads h v d as → Reads h v d' as' → d = d'
  | .none, _, _, _, _, _, r, r' => by cases r; cases r'; rfl
  | .bool _, _, _, _, _, _, r, r' => by cases r; cases r'; rfl
  | .int _, _, _, _, _, _, r, r' => by cases r; cases r'; rfl
  | .str _, _, _, _, _, _, r, r' => by cases r; cases r'; rfl
  | .list xs, _, _, _, _, al, r, r' => by
    cases r with
    | list e1 e2 e3 e4 =>
      cases r' with
      | list f1 f2 f3 f4 =>
        rw [e1] at f1; cases f1; rw [e3] at f3; cases f3
        rw [readsAll_uniq (by simpa [PySem.W.alike] using al) e4 f4]
      | tuple f1 f2 f3 f4 => rw [e1] at f1; cases f1; rw [e2] at f2; simp at f2
      | dict f1 f2 f3 f4 f5 => rw [e1] at f1; cases f1; rw [e2] at f2; simp at f2
  | .tuple xs, _, _, _, _, al, r, r' => by
    cases r with
    | tuple e1 e2 e3 e4 =>
      cases r' with
      | tuple f1 f2 f3 f4 =>
        rw [e1] at f1; cases f1; rw [e3] at f3; cases f3
        rw [readsAll_uniq (by simpa [PySem.W.alike] using al) e4 f4]
      | list f1 f2 f3 f4 => rw [e1] at f1; cases f1; rw [e2] at f2; simp at f2
      | dict f1 f2 f3 f4 f5 => rw [e1] at f1; cases f1; rw [e2] at f2; simp at f2
  | .dict _, _, _, _, _, al, _, _ => by simp [PySem.W.alike] at al
theorem readsAll_uniq {h : Heap} : ∀ {ds ds' : List PyData} {vs : List Value} {as as' : List Addr}, PySem.W.alikeAll ds ds = true → ReadsAll h vs ds as → ReadsAll h vs ds' as' → ds = ds'
  | [], _, _, _, _, _, r, r' => by cases r; cases r'; rfl
  | d :: ds, _, _, _, _, al, r, r' => by
    cases r with
    | cons r1 r2 =>
      cases r' with
      | cons q1 q2 =>
        have al2 : PySem.W.alike d d = true ∧ PySem.W.alikeAll ds ds = true := by simpa [PySem.W.alikeAll] using al
        rw [reads_uniq al2.1 r1 q1, readsAll_uniq al2.2 r2 q2]
end
def dep64 (ds : List D) : Prop := PyData.depthAll ds ≤ 64
abbrev rBestA (K : PySem.W.Frag) (f : D → List D → D) : List V → Hp → VK → Prop := fun xs H Q => ∃ a us d ds, xs = [V.ref a] ∧ SqL K H a us ∧ DpAll K H us (d :: ds) ∧ PySem.W.AlikeAll (d :: ds) ∧ dep64 (d :: ds) ∧ ∀ (i : Nat) u, us[i]? = some u → (d :: ds)[i]? = some (f d ds) → Q u H
section
variable {X : Cx}
theorem best_out {pins : List (Addr × Obj)} {σ : L2.St} {H : Hp} {s : Shared} {us : List V} {its : List Value} {d m : D} {ds : List D} {as : List Addr} {Q : VK} (I : L2.Inv X pins σ H s) (rv : Vals us its) (hr : ReadsAll s.heap its (d :: ds) as) (hal : PySem.W.AlikeAll (d :: ds)) (q : ∀ (i : Nat) u, us[i]? = some u → (d :: ds)[i]? = some m → Q u H)
    {i : Nat} {v : Value} {h' : Heap} {tk : Nat} {bs : List Addr} (hv : its.toArray[i]? = some v) (hm : Reads h' v m bs) (hk : ∀ b o, s.heap.get? b = some o → h'.get? b = some o) : EP X pins σ Q v { s with heap := h', toks := tk } := by
  have hv' : its[i]? = some v := by simpa using hv
  have hi : i < us.length := by rw [rv.length]; exact (List.getElem?_eq_some_iff.mp hv').1
  obtain ⟨v', e1, e2⟩ := rv.get (List.getElem?_eq_getElem hi)
  rw [hv'] at e1
  cases e1
  obtain ⟨cs, r, h1, h2, _⟩ := PySem.W.readsAll_at hr i v hv'
  have e3 : (d :: ds)[i]? = some ((d :: ds).getD i .none) := by
    rw [List.getD_eq_getElem?_getD, List.getElem?_eq_getElem h1]; rfl
  have e4 : (d :: ds).getD i .none = m := reads_uniq (hal.1 _ h2 _ h2) (PySem.W.reads_keeps hk r) hm
  rw [e4] at e3
  exact ⟨us[i], H, I.kept (t' := tk) hk, e2, q i _ (List.getElem?_eq_getElem hi) e3⟩
theorem cr_minA (hc : X.calm = true) (hu : X.A.units + 65 < cLine) : CallR X (.builtin "min") (rBestA X.K PySem.W.minD) := by
  intro pins s σ H xs vs Q I r h
  obtain ⟨a, us, d, ds, rfl, hq, hdp, hal, hdep, q⟩ := h
  cases r with
  | cons r rr =>
    cases rr
    cases r
    obtain ⟨its, rv, pl, hz⟩ := I.list hq
    obtain ⟨as, hr⟩ := Dp.readsAll I (d :: ds) us its hdp rv
    exact PySem.W.min_list_data (I.ok.hd hc) pl.isList (by simpa using hr) hal (by unfold dep64 at hdep; omega) fun i v h' tk bs hv hm hk => best_out I rv hr hal q hv hm hk
theorem cr_maxA (hc : X.calm = true) (hu : X.A.units + 65 < cLine) : CallR X (.builtin "max") (rBestA X.K PySem.W.maxD) := by
  intro pins s σ H xs vs Q I r h
  obtain ⟨a, us, d, ds, rfl, hq, hdp, hal, hdep, q⟩ := h
  cases r with
  | cons r rr =>
    cases rr
    cases r
    obtain ⟨its, rv, pl, hz⟩ := I.list hq
    obtain ⟨as, hr⟩ := Dp.readsAll I (d :: ds) us its hdp rv
    exact PySem.W.max_list_data (I.ok.hd hc) pl.isList (by simpa using hr) hal (by unfold dep64 at hdep; omega) fun i v h' tk bs hv hm hk => best_out I rv hr hal q hv hm hk
/-- the best item of a list of alike data -/
def dBest (f : D → List D → D) : D → (D → Prop) → Prop := fun e Q => match e with
  | .list (d :: ds) => (PySem.W.AlikeAll (d :: ds) ∧ dep64 (d :: ds)) ∧ Q (f d ds)
  | _ => False
variable {L : Lw} {W : WX}
theorem snd_best {f : D → List D → D} (hf : ∀ d ds, f d ds ∈ d :: ds) (b : Beg) (F : Hp) (s : Sl) (σ : L2.St) (H : Hp) (v : V) (e : D) (Q : D → Prop) (k : VK) (I : Rel X.K L b F s σ H) (hv : DpB X.K b F H v e) (q : dBest f e Q) (kk : ∀ F' c v H', Rel X.K L b F' s σ H' → Same F F' → Kp b H H' → Dt X.K F' v c → Q c → k v H') :
    rBestA X.K f [v] H k := by
  unfold dBest at q
  split at q
  · rename_i d ds
    have main : ∀ {a : Addr} {us : List V}, SqL X.K H a us → DtAll X.K F us (d :: ds) → rBestA X.K f [.ref a] H k := fun {a us} hs r =>
      ⟨a, us, d, ds, rfl, hs, dts_dp (dps_mono I.sub r), q.1.1, q.1.2, fun i u e1 e2 => by
        obtain ⟨v', e3, e4⟩ := dps_get r e2
        rw [e1] at e3; cases e3
        exact kk F _ _ H I (Same.refl F) Kp.refl e4 q.2⟩
    rcases hv with hv | ⟨a, vs, ds', rfl, e2, e3, e4, e5⟩
    · cases hv with
      | lst q1 q2 => exact main (I.sub.seq q1) q2
    · cases e2
      exact main (.inl (.inl e4)) e5
  · exact q.elim
theorem minD_mem (d : D) (ds : List D) : PySem.W.minD d ds ∈ d :: ds := by
  unfold PySem.W.minD
  induction ds generalizing d with
  | nil => exact List.mem_cons_self
  | cons x xs ih =>
    rw [List.foldl_cons]
    split
    · exact List.mem_cons_of_mem _ (ih x)
    · rcases List.mem_cons.mp (ih d) with h | h
      · rw [h]; exact List.mem_cons_self
      · exact List.mem_cons_of_mem _ (List.mem_cons_of_mem _ h)
theorem maxD_mem (d : D) (ds : List D) : PySem.W.maxD d ds ∈ d :: ds := by
  unfold PySem.W.maxD
  induction ds generalizing d with
  | nil => exact List.mem_cons_self
  | cons x xs ih =>
    rw [List.foldl_cons]
    split
    · exact List.mem_cons_of_mem _ (ih x)
    · rcases List.mem_cons.mp (ih d) with h | h
      · rw [h]; exact List.mem_cons_self
      · exact List.mem_cons_of_mem _ (List.mem_cons_of_mem _ h)
theorem cal_minA {k : Nat} (hr : Room k X.A) (hc : X.calm = true := by rfl) : CalB X L (.builtin "min") (rBestA X.K PySem.W.minD) (dBest PySem.W.minD) := ⟨cr_minA hc (by have := hr.un; omega), snd_best minD_mem⟩
theorem cal_maxA {k : Nat} (hr : Room k X.A) (hc : X.calm = true := by rfl) : CalB X L (.builtin "max") (rBestA X.K PySem.W.maxD) (dBest PySem.W.maxD) := ⟨cr_maxA hc (by have := hr.un; omega), snd_best maxD_mem⟩
end
theorem tabIn_of {K : PySem.W.Frag} {x : Str} {f c P : Addr} {oc o1 : Value} {od o2 : Option Addr} {sl o3 : Array (Option Value)} {fd : FuncData} {vs : Array Value} (a : PySem.W.nsIn K mainGlobals x = some (some (.ref f))) (l : K.lookup f = some ⟨oc, od, .func fd, sl⟩) (hc : fd.code = .ref c)
    (lc : K.lookup c = some ⟨o1, o2, .fields vs, o3⟩) (hv : vs[11]? = some (.ref P)) : PySem.W.tabIn K x = some (c, P) := by
  unfold PySem.W.tabIn
  rw [a]
  dsimp only
  rw [l]
  dsimp only
  rw [hc]
  dsimp only
  rw [lc]
  dsimp only
  rw [hv]
end FL

/-! FL17: several stores at once, the last (or the first, ahead of constants) a new list of the def's own. -/
namespace FL
open PySem PySem.Spec PyProof.Rows L2
section
variable {K : PySem.W.Frag} {L : Lw} {b : Beg} {F F' : Hp} {s : Sl} {σ : L2.St} {H H' : Hp}
theorem hn_put {i : Nat} {p : Addr} {d : D} {v : V} (h : ∀ (j : Nat), isOw s[j]? → σ[j]? ≠ some (some (.ref p))) : ∀ (j : Nat), isOw (s.set i (.fz d))[j]? → (σ.set i (some v))[j]? ≠ some (some (.ref p)) := by
  intro j z
  by_cases q : j = i
  · subst q
    rw [List.getElem?_set] at z
    split at z
    · split at z <;> exact z.elim
    · rename_i y; exact absurd rfl y
  · rw [List.getElem?_set_ne (Ne.symm q)] at z ⊢
    exact h j z
end
section
variable {X : Cx} {L : Lw} {W : WX} {pos p : Pos} {a c e : Expr} {ta tb te : TE} {wa wb we : We} {wl : Wl}
def wParO (i j : Nat) (wa : We) (wl : Wl) : Ws := fun s E => wa s (fun d => wl s (fun ds => E.nx ((s.set i (.fz d)).set j (.ow ds))) E.ex) E.ex
theorem fs_parO {i j : Nat} {x y : Str} {px py pt pt2 : Pos} {kt k2 : Nat} (hc : X.calm = true) (hN : X.N.Nodup) (ha : FE X L W a ta wa) (hb : FN X L W c tb wl) (hi : X.N[i]? = some x := by rfl) (hj : X.N[j]? = some y := by rfl) (hij : i ≠ j := by decide)
    (hx : X.env.scope.names.lookup x = some .local := by rfl) (hy : X.env.scope.names.lookup y = some .local := by rfl)
    (hw : swappedStores [.Tuple [.Name x px, .Name y py] kt pt] (.Tuple [a, c] k2 pt2) X.env = pure (some [x, y]) := by rfl)
    (hs : swapsWithSole [.Tuple [.Name x px, .Name y py] kt pt] (.Tuple [a, c] k2 pt2) pos.line X.env = pure false := by rfl)
    (h1 : starEach [a, c] X.env = (false, eval a X.env) :: starEach [c] X.env := by rfl) (h2 : starEach [c] X.env = (false, eval c X.env) :: starEach [] X.env := by rfl) :
    FS X L W (.Assign [.Tuple [.Name x px, .Name y py] kt pt] (.Tuple [a, c] k2 pt2) pos) (tPar i j (tCons ta (tCons tb tNil))) (wParO i j wa wl) := by
  refine ⟨ps_par hc hN hi hj hij hx hy (pa_cons ha.pe (pa_cons hb.pe pa_nil h2) h1) hw hs, fun b F s σ H E D' I h ok => ?_⟩
  refine ha.snd b F s σ H _ E.ex _ I h ok.exw fun F1 d v H1 I1 m1 k1 r1 q => ?_
  refine hb.snd b F1 s σ H1 _ E.ex _ I1 q (ok.exw.mono m1) fun F2 ds p vs H2 I2 m2 k2 fr e2 r2 z => ?_
  exact ⟨_, _, rfl, ok.nx F2 _ _ H2 ((I2.put (dp_mono m2 r1)).putO fr.h0 fr.hd fr.hf (hn_put fr.hn) e2 r2) (m1.trans m2) z⟩
def wPar3O (i j l : Nat) (wa wb : We) (wl : Wl) : Ws := fun s E => wa s (fun d => wb s (fun e => wl s (fun ds => E.nx (((s.set i (.fz d)).set j (.fz e)).set l (.ow ds))) E.ex) E.ex) E.ex
theorem fs_par3O {i j l : Nat} {x y z : Str} {px py pz pt pt2 : Pos} {kt k2 : Nat} (hc : X.calm = true) (hN : X.N.Nodup) (ha : FE X L W a ta wa) (hb : FE X L W c tb wb) (he : FN X L W e te wl) (hi : X.N[i]? = some x := by rfl) (hj : X.N[j]? = some y := by rfl) (hl : X.N[l]? = some z := by rfl) (hij : i ≠ j := by decide) (hil : i ≠ l := by decide) (hjl : j ≠ l := by decide)
    (hx : X.env.scope.names.lookup x = some .local := by rfl) (hy : X.env.scope.names.lookup y = some .local := by rfl) (hz : X.env.scope.names.lookup z = some .local := by rfl)
    (hw : swappedStores [.Tuple [.Name x px, .Name y py, .Name z pz] kt pt] (.Tuple [a, c, e] k2 pt2) X.env = pure (some [x, y, z]) := by rfl)
    (hs : swapsWithSole [.Tuple [.Name x px, .Name y py, .Name z pz] kt pt] (.Tuple [a, c, e] k2 pt2) pos.line X.env = pure false := by rfl)
    (h1 : starEach [a, c, e] X.env = (false, eval a X.env) :: starEach [c, e] X.env := by rfl) (h2 : starEach [c, e] X.env = (false, eval c X.env) :: starEach [e] X.env := by rfl) (h3 : starEach [e] X.env = (false, eval e X.env) :: starEach [] X.env := by rfl) :
    FS X L W (.Assign [.Tuple [.Name x px, .Name y py, .Name z pz] kt pt] (.Tuple [a, c, e] k2 pt2) pos) (tPar3 i j l (tCons ta (tCons tb (tCons te tNil)))) (wPar3O i j l wa wb wl) := by
  refine ⟨ps_par3 hc hN hi hj hl hij hil hjl hx hy hz (pa_cons ha.pe (pa_cons hb.pe (pa_cons he.pe pa_nil h3) h2) h1) hw hs, fun b F s σ H E D' I h ok => ?_⟩
  refine ha.snd b F s σ H _ E.ex _ I h ok.exw fun F1 d v H1 I1 m1 k1 r1 q => ?_
  refine hb.snd b F1 s σ H1 _ E.ex _ I1 q (ok.exw.mono m1) fun F2 d2 v2 H2 I2 m2 k2 r2 q => ?_
  refine he.snd b F2 s σ H2 _ E.ex _ I2 q (ok.exw.mono (m1.trans m2)) fun F3 ds p vs H3 I3 m3 k3 fr e2 r3 z => ?_
  exact ⟨_, _, _, rfl, ok.nx F3 _ _ H3 (((I3.put (dp_mono (m2.trans m3) r1)).put (dp_mono m3 r2)).putO fr.h0 fr.hd fr.hf (hn_put (hn_put fr.hn)) e2 r3) ((m1.trans m2).trans m3) z⟩
/-- a new list ahead of a constant -/
def wParOc (i j : Nat) (d : D) (wl : Wl) : Ws := fun s E => wl s (fun ds => E.nx ((s.set i (.ow ds)).set j (.fz d))) E.ex
theorem fs_parOc {i j : Nat} {x y : Str} {px py pt pt2 : Pos} {kt k2 : Nat} {v : V} {d : D} (hc : X.calm = true) (hN : X.N.Nodup) (hb : FN X L W a ta wl) (hv : PE X c (tC v)) (hd : ∀ F, Dt X.K F v d) (hi : X.N[i]? = some x := by rfl) (hj : X.N[j]? = some y := by rfl) (hij : i ≠ j := by decide)
    (hx : X.env.scope.names.lookup x = some .local := by rfl) (hy : X.env.scope.names.lookup y = some .local := by rfl)
    (hw : swappedStores [.Tuple [.Name x px, .Name y py] kt pt] (.Tuple [a, c] k2 pt2) X.env = pure (some [x, y]) := by rfl)
    (hs : swapsWithSole [.Tuple [.Name x px, .Name y py] kt pt] (.Tuple [a, c] k2 pt2) pos.line X.env = pure false := by rfl)
    (h1 : starEach [a, c] X.env = (false, eval a X.env) :: starEach [c] X.env := by rfl) (h2 : starEach [c] X.env = (false, eval c X.env) :: starEach [] X.env := by rfl) :
    FS X L W (.Assign [.Tuple [.Name x px, .Name y py] kt pt] (.Tuple [a, c] k2 pt2) pos) (tPar i j (tCons ta (tCons (tC v) tNil))) (wParOc i j d wl) := by
  refine ⟨ps_par hc hN hi hj hij hx hy (pa_cons hb.pe (pa_cons hv pa_nil h2) h1) hw hs, fun b F s σ H E D' I h ok => ?_⟩
  refine hb.snd b F s σ H _ E.ex _ I h ok.exw fun F2 ds p vs H2 I2 m2 k2 fr e2 r2 z => ?_
  exact ⟨_, _, rfl, ok.nx F2 _ _ H2 ((I2.putO fr.h0 fr.hd fr.hf fr.hn e2 r2).put (hd F2)) m2 z⟩
end
end FL

/-! FL18: plain lemmas: what == of data needs and says. -/
namespace FL
open PySem PySem.Spec PyProof.Rows L2
section
variable {c : Cel} {s : Sl} {E : En}
theorem u_parO {i j : Nat} {wa : We} {wl : Wl} : wParO i j wa wl (c :: s) E = wa (c :: s) (fun d => wl (c :: s) (fun ds => E.nx (((c :: s).set i (.fz d)).set j (.ow ds))) E.ex) E.ex := rfl
theorem u_par3O {i j l : Nat} {wa wb : We} {wl : Wl} : wPar3O i j l wa wb wl (c :: s) E = wa (c :: s) (fun d => wb (c :: s) (fun e => wl (c :: s) (fun ds => E.nx ((((c :: s).set i (.fz d)).set j (.fz e)).set l (.ow ds))) E.ex) E.ex) E.ex := rfl
theorem u_parOc {i j : Nat} {d : D} {wl : Wl} : wParOc i j d wl (c :: s) E = wl (c :: s) (fun ds => E.nx (((c :: s).set i (.ow ds)).set j (.fz d))) E.ex := rfl
end
/-- the first statement by itself -/
theorem seq_mid {a r : Ws} {s : Sl} {E : En} (s2 : Sl) (h : ∀ N : Sl → Prop, N s2 → a s { E with nx := N }) (k : r s2 E) : wSeq a r s E := h (fun s' => r s' E) k
theorem seq_midP {a r : Ws} {s : Sl} {E : En} (P : Sl → Prop) (h : ∀ N : Sl → Prop, (∀ s2, P s2 → N s2) → a s { E with nx := N }) (k : ∀ s2, P s2 → r s2 E) : wSeq a r s E := h (fun s' => r s' E) k
theorem ws_mid {a : Ws} {s : Sl} {E : En} (s2 : Sl) (h : ∀ N : Sl → Prop, N s2 → a s { E with nx := N }) (k : E.nx s2) : a s E := h E.nx k
/-- data that can be compared, of depth at most n -/
def Sh (n : Nat) (d : D) : Prop := d.canLay0 = true ∧ d.depth ≤ n
theorem sh_i {n : Nat} {i : Int} : Sh n (.int i) := ⟨rfl, Nat.zero_le _⟩
theorem sh_b {n : Nat} {i : Bool} : Sh n (.bool i) := ⟨rfl, Nat.zero_le _⟩
theorem sh_n {n : Nat} : Sh n .none := ⟨rfl, Nat.zero_le _⟩
theorem sh_s {n : Nat} {x : Str} (h : PyData.canLay0 (.str x) = true) : Sh n (.str x) := ⟨h, Nat.zero_le _⟩
theorem sh_all {n : Nat} : ∀ {ds : List D}, (∀ d ∈ ds, Sh n d) → PyData.canLayAll0 ds = true ∧ PyData.depthAll ds ≤ n
  | [], _ => ⟨rfl, Nat.zero_le _⟩
  | d :: ds, h => by
    have h1 := h d List.mem_cons_self
    have h2 := sh_all fun e he => h e (List.mem_cons_of_mem _ he)
    unfold PyData.canLayAll0 PyData.depthAll
    rw [h1.1, h2.1]
    exact ⟨rfl, Nat.max_le.mpr ⟨h1.2, h2.2⟩⟩
theorem sh_l {n : Nat} {ds : List D} (h : ∀ d ∈ ds, Sh n d) : Sh (n + 1) (.list ds) := by
  have := sh_all h
  refine ⟨by unfold PyData.canLay0; exact this.1, ?_⟩
  have h2 := this.2
  unfold PyData.depth
  omega
theorem sh_t {n : Nat} {ds : List D} (h : ∀ d ∈ ds, Sh n d) : Sh (n + 1) (.tuple ds) := by
  have := sh_all h
  refine ⟨by unfold PyData.canLay0; exact this.1, ?_⟩
  have h2 := this.2
  unfold PyData.depth
  omega
theorem sh_ok {n : Nat} {d : D} (h : Sh n d) (hn : n ≤ 64 := by decide) : SeqAt.shaped d = true := by
  unfold SeqAt.shaped
  rw [h.1, decide_eq_true (Nat.le_trans h.2 hn)]
  rfl
theorem sh_eq {n m : Nat} {d e : D} (h : Sh n d) (h' : Sh m e) (hn : n ≤ 64 := by decide) (hm : m ≤ 64 := by decide) : EqOk d e := .inr ⟨sh_ok h hn, sh_ok h' hm⟩
theorem sh_nilL : Sh 1 (.list []) := sh_l fun _ h => by cases h
theorem sh_nilT : Sh 1 (.tuple []) := sh_t fun _ h => by cases h
theorem ev_lnil {ds : List D} : PyData.eqv (.list ds) (.list []) = decide (ds = []) := by
  cases ds <;> simp [PyData.eqv, PyData.eqvAll]
theorem ev_tnil {ds : List D} : PyData.eqv (.tuple ds) (.tuple []) = decide (ds = []) := by
  cases ds <;> simp [PyData.eqv, PyData.eqvAll]
theorem evs_map {α : Type} [DecidableEq α] {f : α → D} (h : ∀ x y, PyData.eqv (f x) (f y) = decide (x = y)) : ∀ xs ys : List α, PyData.eqvAll (xs.map f) (ys.map f) = decide (xs = ys)
  | [], [] => by simp [PyData.eqvAll]
  | [], _ :: _ => by simp [PyData.eqvAll]
  | _ :: _, [] => by simp [PyData.eqvAll]
  | x :: xs, y :: ys => by
    rw [List.map_cons, List.map_cons, PyData.eqvAll, h x y, evs_map h xs ys, ← Bool.decide_and]
    exact decide_eq_decide.mpr (by rw [List.cons.injEq])
theorem ev_lmap {α : Type} [DecidableEq α] {f : α → D} (h : ∀ x y, PyData.eqv (f x) (f y) = decide (x = y)) (xs ys : List α) : PyData.eqv (.list (xs.map f)) (.list (ys.map f)) = decide (xs = ys) := by
  rw [PyData.eqv]; exact evs_map h xs ys
theorem ev_tmap {α : Type} [DecidableEq α] {f : α → D} (h : ∀ x y, PyData.eqv (f x) (f y) = decide (x = y)) (xs ys : List α) : PyData.eqv (.tuple (xs.map f)) (.tuple (ys.map f)) = decide (xs = ys) := by
  rw [PyData.eqv]; exact evs_map h xs ys
theorem cut_take {α : Type} (xs : List α) (k : Nat) : cutL xs none (some (k : Int)) = xs.take k := by
  unfold cutL
  rw [HT.sIx_none, HT.sIx_nat, Nat.sub_zero, List.drop_zero]
  rw [List.take_eq_take_iff]
  omega
theorem cut_drop {α : Type} (xs : List α) (k : Nat) : cutL xs (some (k : Int)) none = xs.drop k := by
  unfold cutL
  rw [HT.sIx_none, HT.sIx_nat]
  rw [List.take_of_length_le (by rw [List.length_drop]; omega)]
  rcases Nat.le_total k xs.length with h | h
  · rw [Nat.min_eq_left h]
  · rw [Nat.min_eq_right h, List.drop_of_length_le (Nat.le_refl _), List.drop_of_length_le h]
end FL

/-! FL19: what is never reached. -/
namespace FL
open PySem PySem.Spec PyProof.Rows L2
section
variable {X : Cx} {L : Lw} {W : WX} {st : Stmt} {e : Expr}
def wDead : Ws := fun _ _ => False
/-- a statement that is never reached -/
theorem fs_dead : FS X L W st (fun _ _ _ => False) wDead := ⟨⟨fun _ _ _ _ _ _ h => h.elim⟩, fun _ _ _ _ _ _ _ _ h _ => h.elim⟩
def wDeadE : We := fun _ _ _ => False
theorem fe_dead : FE X L W e (fun _ _ _ => False) wDeadE := ⟨⟨fun _ _ _ _ _ _ h => h.elim⟩, fun _ _ _ _ _ _ _ _ _ h _ _ => h.elim⟩
end
end FL

/-! FL20: index of a tuple of words. -/
namespace FL
open PySem PySem.Spec PyProof.Rows L2
section
variable {X : Cx} {L : Lw} {W : WX} {pos : Pos} {o e : Expr} {to te : TE} {wo we : We}
def rIdxT (K : PySem.W.Frag) : V → List V → Hp → VK → Prop := fun x xs H Q => ∃ (a : Addr) (k : Str) (ss : List Str), x = V.ref a ∧ xs = [V.str k] ∧ SqT K H a (ss.map V.str) ∧ k ∈ ss ∧ Q (.int ((ss.idxOf k : Nat) : Int)) H
theorem mt_idxT : MtR X "tuple.index" (rIdxT X.K) := by
  intro pins s σ H x xs v us Q I rx rxs h
  obtain ⟨a, k, ss, rfl, rfl, hs, hk, q⟩ := h
  cases rx
  cases rxs with
  | cons ry rt =>
    cases rt
    obtain ⟨its, rv, hl, hlen⟩ := I.tuple hs
    obtain ⟨t, rfl⟩ := ry
    exact SeqAt.tuple_index_strs hl (Vals.strs rv) hk ⟨.int _, H, I.tok _, ⟨_, rfl⟩, q⟩
theorem dps_strs {K : PySem.W.Frag} {H : Hp} : ∀ {ns : List Str} {vs : List V}, DtAll K H vs (ns.map .str) → vs = ns.map V.str
  | [], _, h => by cases h; rfl
  | _ :: _, _, h => by
    cases h with
    | cons h1 h2 => cases h1; simp [dps_strs h2]
/-- a constant of the top: a tuple of words -/
def GCI (K : PySem.W.Frag) (mg : Str → Option Value) (x : Str) (ss : List Str) : Prop := ∃ (a : Addr) (o : Obj) (its : Array Value) (n : Nat), mg x = some (.ref a) ∧ K.lookup a = some o ∧ o.cls = .type "tuple" ∧ o.dict = none ∧ o.data = .seq its n ∧ its.size ≤ sizeLine ∧ Vals (ss.map V.str) its.toList
def wIdxC (ss : List Str) (we : We) : We := fun s Q R => we s (fun k => match k with
  | .str k => k ∈ ss ∧ Q (.int ((ss.idxOf k : Nat) : Int))
  | _ => False) R
theorem fe_idxC {x : Str} {ss : List Str} {p p2 p3 : Pos} (h : GCI X.K X.mg x ss) (ha : FE X L W e te we) (hg : Gl X x := by rfl) (hd : (x == ("__debug__" : Str)) = false := by decide) (hbase : attributeBase (.Name x p) "index" X.env (eval (.Name x p) X.env) = eval (.Name x p) X.env := by rfl)
    (hfew : ((backTo p3 (starEach [e] X.env)).all (fun x => !x.1) && (backToKw p3 (keywordEach [] X.env)).all (fun x => x.1.isSome) && decide ([e].length + ([] : List Keyword).length + (if ([] : List Keyword).isEmpty then 0 else 1) < 30)) = true := by rfl)
    (hline : (p2.endLine == p3.line) = true := by rfl) (hst : starEach [e] X.env = (false, eval e X.env) :: starEach [] X.env := by rfl) :
    FE X L W (.Call (.Attribute (.Name x p) "index" p2) [e] [] p3) (tBM X.K "tuple" (rIdxT X.K) (tC (.ref (Classical.choose h))) (tCons te tNil)) (wIdxC ss we) := by
  obtain ⟨o, its, n, hm, hl, hc, hdi, hda, hz, hv⟩ := Classical.choose_spec h
  generalize Classical.choose h = a at *
  refine ⟨pe_bm PySem.F.plainAttrs_tuple PySem.F.slot_tuple_index PySem.F.type_tuple_index mt_idxT (pe_glob hg hm rfl hd) (pa_cons ha.pe pa_nil hst) hbase hfew hline hst rfl, fun b F s σ H Q R k I h hx kk => ?_⟩
  refine ⟨.inr (.inl ⟨rfl, o, hl, hc, hdi⟩), ?_⟩
  refine ha.snd b F s σ H _ R _ I h hx fun F1 d1 v1 H1 I1 m1 k1 r1 h1 => ?_
  cases d1 with
  | str w =>
    cases r1
    exact ⟨a, w, ss, rfl, rfl, .inr ⟨o, its, n, hl, hc, hda, hz, hv⟩, h1.1, kk F1 _ _ H1 I1 m1 k1 (.int _) h1.2⟩
  | _ => exact h1.elim
end
end FL

/-! FL21: while an exception is handled: the end of a list and of a tuple, unpacking. -/
namespace FLH
open PySem PySem.Spec PyProof.Rows HotX
section
variable {prog : Program} {w : World} {A : Around} {E : Value → Shared → Prop} {s : Shared}
theorem next_list_end_hot {it l x1 : Addr} {i : Nat} {items} {Q : Option Value → Shared → Prop} (hot : HotAt A x1 s.heap) (hit : s.heap.IsListIter it l i) (hl : s.heap.IsList l items) (hx : items[i]? = none)
    (hQ : ∀ h', Heap.ExtBut it s.heap h' → Q none { s with heap := h' }) : wpAny (model prog w) A (pyNext (.ref it)) Q E s := by
  obtain ⟨hh, o1, vs1, h1, d1, c1⟩ := hot
  obtain ⟨o, ho, hc, hd⟩ := id hit
  obtain ⟨ol, hol, _, nl, hdl⟩ := hl
  have hne : x1 ≠ it := fun z => by
    rw [z, ho] at h1
    cases h1
    rw [hd] at d1
    cases d1
    cases c1
  unfold pyNext
  refine wpAny_bind (wpAny_attempt (wpAny_callSpecial?_slot (name := Str.ofString "__next__") hit.typeIs slot_listiter_next
    (wpAny_call_entry slot_listiter_next hit.typeIs entry_listiter_next ?_ (args_listiter_next _))))
  show wpAny _ _ (field (.ref it) 0 >>= _) _ _ s
  refine wpAny_bind (wpAny_field ho hd (x := .ref l) rfl ?_)
  show wpAny _ _ (if (Value.ref l == Value.none) = true then _ else _) _ _ s
  rw [if_neg (show ¬ ((Value.ref l == Value.none) = true) from Bool.false_ne_true)]
  show wpAny _ _ (field (.ref it) 1 >>= _) _ _ s
  refine wpAny_bind (wpAny_field ho hd (x := .int i 0) rfl ?_)
  show wpAny _ _ (seqItems? (.ref l) >>= _) _ _ s
  refine wpAny_bind (wpAny_seqItems hol hdl ?_)
  simp only [Int.toNat_natCast, hx]
  refine wpAny_bind (wpAny_rule (wpAny_bind (wpAny_setField ho hd (by simp) ?_)))
  show wpAny _ _ (newExc (.type "StopIteration") [] >>= _) _ _ _
  refine wpAny_bind ?_
  simp only [newExc, newTuple]
  refine wpAny_bind (wpAny_newObj_type ?_ (by size_fits))
  refine wpAny_bind (m := firstArgMember _ _) (wpAny_of_eq (a := Value.none) (by first | rfl | (simp only [firstArgMember]; rfl)) ?_)
  refine wpAny_newObj_type ?_ (by size_fits)
  have h1' := (Heap.get?_update_other (h := s.heap) (a := it) (Obj.mapFields (·.setIfInBounds 0 Value.none)) (Ne.symm hne)).trans h1
  refine raiseNew_hot ⟨hh, o1, vs1, Heap.get?_push_of_some _ (Heap.get?_push_of_some _ h1'), d1, c1⟩ (Nat.ne_of_lt (Heap.lt_size (Heap.get?_push_of_some _ h1'))) (Heap.get?_push_size _ rfl) rfl (by first | (simp; done) | (simp; omega) | (simp only [Array.size_append]; simp; omega)) ?_
  refine wpAny_bind (wpAny_isInstance (T := "StopIteration") (b := true) ⟨_, Heap.get?_update_self _ (Heap.get?_push_size _ rfl) rfl, rfl⟩ isSubtype_stop ?_)
  refine wpAny_pure (hQ _ fun b o hb e => ?_)
  have e' := (Heap.get?_update_other (h := s.heap) (a := it) (Obj.mapFields (·.setIfInBounds 0 Value.none)) (Ne.symm hb)).trans e
  rw [Heap.get?_update_other _ _ (Nat.ne_of_gt (Heap.lt_size (Heap.get?_push_of_some _ e')))]
  exact Heap.get?_push_of_some _ (Heap.get?_push_of_some _ e')
theorem next_tuple_end_hot {it l x1 : Addr} {i : Nat} {items} {Q : Option Value → Shared → Prop} (hot : HotAt A x1 s.heap) (hit : IsTupIter s.heap it l i) (hl : IsTup s.heap l items) (hx : items[i]? = none)
    (hQ : ∀ h', Heap.ExtBut it s.heap h' → Q none { s with heap := h' }) : wpAny (model prog w) A (pyNext (.ref it)) Q E s := by
  obtain ⟨hh, o1, vs1, h1, d1, c1⟩ := hot
  obtain ⟨o, ho, hc, hd⟩ := id hit
  obtain ⟨ol, hol, _, nl, hdl⟩ := hl
  have hne : x1 ≠ it := fun z => by
    rw [z, ho] at h1
    cases h1
    rw [hd] at d1
    cases d1
    cases c1
  unfold pyNext
  refine wpAny_bind (wpAny_attempt (wpAny_callSpecial?_slot (name := Str.ofString "__next__") hit.typeIs slot_tupleiter_next
    (wpAny_call_entry slot_tupleiter_next hit.typeIs entry_tupleiter_next ?_ (args_tupleiter_next _))))
  show wpAny _ _ (field (.ref it) 0 >>= _) _ _ s
  refine wpAny_bind (wpAny_field ho hd (x := .ref l) rfl ?_)
  show wpAny _ _ (if (Value.ref l == Value.none) = true then _ else _) _ _ s
  rw [if_neg (show ¬ ((Value.ref l == Value.none) = true) from Bool.false_ne_true)]
  show wpAny _ _ (field (.ref it) 1 >>= _) _ _ s
  refine wpAny_bind (wpAny_field ho hd (x := .int i 0) rfl ?_)
  show wpAny _ _ (seqItems? (.ref l) >>= _) _ _ s
  refine wpAny_bind (wpAny_seqItems hol hdl ?_)
  simp only [Int.toNat_natCast, hx]
  refine wpAny_bind (wpAny_rule (wpAny_bind (wpAny_setField ho hd (by simp) ?_)))
  show wpAny _ _ (newExc (.type "StopIteration") [] >>= _) _ _ _
  refine wpAny_bind ?_
  simp only [newExc, newTuple]
  refine wpAny_bind (wpAny_newObj_type ?_ (by size_fits))
  refine wpAny_bind (m := firstArgMember _ _) (wpAny_of_eq (a := Value.none) (by first | rfl | (simp only [firstArgMember]; rfl)) ?_)
  refine wpAny_newObj_type ?_ (by size_fits)
  have h1' := (Heap.get?_update_other (h := s.heap) (a := it) (Obj.mapFields (·.setIfInBounds 0 Value.none)) (Ne.symm hne)).trans h1
  refine raiseNew_hot ⟨hh, o1, vs1, Heap.get?_push_of_some _ (Heap.get?_push_of_some _ h1'), d1, c1⟩ (Nat.ne_of_lt (Heap.lt_size (Heap.get?_push_of_some _ h1'))) (Heap.get?_push_size _ rfl) rfl (by first | (simp; done) | (simp; omega) | (simp only [Array.size_append]; simp; omega)) ?_
  refine wpAny_bind (wpAny_isInstance (T := "StopIteration") (b := true) ⟨_, Heap.get?_update_self _ (Heap.get?_push_size _ rfl) rfl, rfl⟩ isSubtype_stop ?_)
  refine wpAny_pure (hQ _ fun b o hb e => ?_)
  have e' := (Heap.get?_update_other (h := s.heap) (a := it) (Obj.mapFields (·.setIfInBounds 0 Value.none)) (Ne.symm hb)).trans e
  rw [Heap.get?_update_other _ _ (Nat.ne_of_gt (Heap.lt_size (Heap.get?_push_of_some _ e')))]
  exact Heap.get?_push_of_some _ (Heap.get?_push_of_some _ e')
theorem unpackItems_hot {t x1 : Addr} {items : Array Value} {Q : List Value → Shared → Prop} (hot : HotAt A x1 s.heap) (ht : IsTup s.heap t items)
    (hQ : ∀ h', Heap.ExtBut s.heap.objs.size s.heap h' → Q items.toList { s with heap := h' }) : wpAny (model prog w) A (unpackItems (.ref t) items.size none) Q E s := by
  have hlt : t ≠ s.heap.objs.size := by obtain ⟨o, ho, _⟩ := ht; exact Nat.ne_of_lt (Heap.lt_size ho)
  obtain ⟨hh, o1, vs1, h1, d1, c1⟩ := hot
  unfold unpackItems notIterableAtAll
  refine wpAny_bind (wpAny_bind (wpAny_specialOf ht.typeIs slot_tuple_iter.lookup (wpAny_pure ?_)))
  simp only [Bool.false_eq_true, if_false]
  refine wpAny_bind (wpAny_holding (iter_tuple ht ?_))
  refine wpAny_bind (wpAny_holding (draw_tuple hlt items.size 0 _ _ ⟨_, Heap.get?_push_size _ rfl, rfl, rfl⟩ (ht.push _) (by omega) fun h₁ hit₁ hs₁ => ?_))
  rw [List.drop_zero, List.take_of_length_le (by simp), if_neg (by simp)]
  have n1 : x1 ≠ s.heap.objs.size := Nat.ne_of_lt (Heap.lt_size h1)
  refine wpAny_bind (wpAny_holding (next_tuple_end_hot ⟨hh, o1, vs1, hs₁.extBut x1 o1 n1 (Heap.get?_push_of_some _ h1), d1, c1⟩ hit₁ ((ht.push _).extBut hs₁.extBut hlt) (by simp) fun h₂ he₂ => ?_))
  simp only [Option.isSome_none, Bool.false_eq_true, if_false]
  exact wpAny_pure (hQ h₂ fun b o hb e => he₂ b o hb (hs₁.extBut b o hb (Heap.get?_push_of_some _ e)))
theorem assign_Tuple_hot {env : Env} {elts : List Expr} {k} {pos : Pos} {t x1 : Addr} {items : Array Value} {Q : Unit → Shared → Prop} (hot : HotAt A x1 s.heap) (ht : IsTup s.heap t items)
    (hn : (assignEach elts env).length = items.size) (hstar : (assignEach elts env).findIdx? (·.1) = none)
    (h : ∀ h', Heap.ExtBut s.heap.objs.size s.heap h' → wpAny (model prog w) A (assignInOrder ((assignEach elts env).map (·.2)) items.toList) Q E { s with heap := h' }) :
    wpAny (model prog w) A (assign (.Tuple elts k pos) env (.ref t)) Q E s := by
  rw [assign_Tuple]
  refine wpAny_bind (wpAny_standAt ?_)
  unfold unpack
  rw [hn, hstar]
  exact wpAny_bind (wpAny_holding (unpackItems_hot hot ht h))
end
end FLH

/-! FL22: while an exception is handled: a list comprehension over a list, a tuple as a target. -/
namespace FLH
open PySem PySem.Spec PyProof.Rows HotX
open L2H (Hot1 HotC PinOk RoomH)
open L2 hiding St
abbrev St := L2.St
section
variable {X : Cx} {pos : Pos}
theorem pg_tupH {es : List Expr} {k : Nat} {t : TGs} {n : Nat} (hc : HotC X) (h : PGs X es t)
    (hn : (assignEach es X.env).length = n := by rfl) (hst : (assignEach es X.env).findIdx? (·.1) = none := by rfl) : PG X (.Tuple es k pos) (gTup X.K n t) :=
  ⟨fun pins s σ H v u Q I r ⟨a, xs, e1, hq, hl, hw⟩ => by
    subst e1
    cases r
    obtain ⟨its, rv, ht, -⟩ := I.tuple hq
    obtain ⟨x1, hot⟩ := hc.at I
    exact assign_Tuple_hot hot ht (by rw [hn, ← hl, rv.length, List.size_toArray]) hst fun h' hx =>
      h.run pins _ σ H xs _ Q (I.kept (t' := s.toks) fun b o e => hx b o (Nat.ne_of_lt (Heap.lt_size e)) e) rv hw⟩
/-- a block's context, the pin of the handled exception with it -/
abbrev blkH (X : Cx) (s : Shared) (H : Hp) (scope : Scope) (cenv : Env) (fp : List Addr) (p : Addr × Obj) : Cx := { X.blk s H scope cenv fp with pn := [p] }
theorem inv_blkH {s s' : Shared} {H H' : Hp} {scope : Scope} {cenv : Env} {fp : List Addr} {p : Addr × Obj} {σ : St} (I : Inv (X.blk s H scope cenv fp) [] σ H' s')
    (hp : s'.heap.get? p.1 = some p.2 ∧ H' p.1 = none ∧ p.1 ≠ cenv.locals ∧ p.1 ∉ frs X.stack ∧ ∀ v, p.2.data ≠ .cell v) : Inv (blkH X s H scope cenv fp p) [] σ H' s' where
  ok := ⟨I.ok.mod, I.ok.kind, I.ok.glob, I.ok.blt, I.ok.above, I.ok.inj, I.ok.has, I.ok.cab, I.ok.hd, I.ok.frames, I.ok.stk, I.ok.exf, I.ok.bs, I.ok.bsz, I.ok.noex, I.ok.exfs, I.ok.funs, I.ok.frf⟩
  os := I.os
  bare := I.bare
  base := I.base
  loc := I.loc
  cell := I.cell
  free := I.free
  freeC := I.freeC
  pin := fun q hq => by
    obtain rfl : q = p := by simpa using (show q ∈ [p] ++ ([] : List (Addr × Obj)) from hq)
    exact hp
  hok := I.hok
  len := I.len
variable {pins : List (Addr × Obj)} {s : Shared} {σ : St} {H : Hp}
theorem lc_hot {Q : VK} {elt tg l : Expr} {ifs : List Expr} {scope : Scope} {own : List (Str × Nat)} {pos' : Pos} {tl : TE} {g : TG} {tt : TT} {te : TE} {use : Option (Value → Sem Unit)} {Qf : Value → Shared → Prop} {p : Addr × Obj}
    (hc : Hot1 X.A p) (hpn : p ∈ X.pn) (hN : X.N.Nodup) (I : Inv X pins σ H s) (hl : PE X l tl) (ok : BlkOk X.N X.env.scope scope own)
    (hb : ∀ (s : Shared) (H : Hp) (C : Addr) (cl : List (Str × Addr)) (fp : List Addr), HotC (blkH X s H scope (compEnvC scope cl C X.env) fp p) → PG (blkH X s H scope (compEnvC scope cl C X.env) fp p) tg g ∧ PTs (blkH X s H scope (compEnvC scope cl C X.env) fp p) ifs tt ∧ PE (blkH X s H scope (compEnvC scope cl C X.env) fp p) elt te)
    (hs : ∀ x, foldedSetIterable l X.env x = pure x) (h : tLc (iList X.K tl) g tt te (own.map (·.2)) σ H Q)
    (fin : ∀ D C s' m H', Inv X pins σ H' s' → Q (.ref D) H' → s'.heap.Ns C m → FpOk X pins H' C → compPost (model X.prog X.w) X.A X.xe use Qf (.ref D) C (.ok .next) s') :
    wpAny (model X.prog X.w) X.A (comprehension (.ListComp elt [⟨tg, l, ifs, 0⟩] scope pos) scope X.env pos' (newList []) false (eval l X.env) use) Qf X.xe s := by
  have hfree : ∀ y ∈ scope.names, y.2 = .free → ∃ c, X.env.cells.lookup y.1 = some c := fun y hy e => (ok.free y hy e).elim (fun k => I.ok.has _ (.inl k)) fun k => I.ok.has _ (.inr k)
  refine wpAny_comprehension_free (use := use) rfl hs (closure_ok hfree) ok.kind (fun y hy e => by rw [ok.uniq y hy, e]) ?_
  refine thn (hl.run pins s σ H _ I h) fun xv s1 ⟨x, H1, I1, r1, a, e, ⟨xs, hq⟩, q⟩ => ?_
  subst e
  cases r1
  obtain ⟨its, rv, pl, -⟩ := I1.list hq
  refine wpAny_pyIter_list pl.isList ?_
  -- the iterator, then the new list
  generalize hit : s1.heap.objs.size = it
  generalize hs2 : ({ s1 with heap := s1.heap.push { cls := .type "list_iterator", data := .fields #[.ref a, .int 0 0] } } : Shared) = s2
  have e2 : s2.heap = s1.heap.push { cls := .type "list_iterator", data := .fields #[.ref a, .int 0 0] } := by rw [← hs2]
  have I2 : Inv X pins σ H1 s2 := by rw [← hs2]; exact I1.kept (t' := s1.toks) fun b o e => Heap.get?_push_of_some _ e
  have st2 : s2.heap.IsListIter it a 0 := by rw [e2, ← hit]; exact ⟨_, Heap.get?_push_size _ rfl, rfl, rfl⟩
  have fit : FpOk X pins H1 it := I1.fpOk (Nat.le_of_eq hit) (I1.hok.fresh (Nat.le_of_eq hit))
  refine wpAny_newObj_type (newEnv_comp ?_) (by show 0 ≤ sizeLine; decide)
  generalize hD : s2.heap.objs.size = D
  obtain ⟨W, ⟨m0, w0⟩, turn⟩ := q D (I2.hok.fresh (Nat.le_of_eq hD))
  generalize hs3 : ({ s2 with heap := s2.heap.push { cls := .type "list", data := .seq ([] : List Value).toArray } } : Shared) = s3
  have e3 : s3.heap = s2.heap.push { cls := .type "list", data := .seq ([] : List Value).toArray } := by rw [← hs3]
  have I3 : Inv X pins σ (upd H1 D (.lst [])) s3 := by
    rw [← hs3]
    refine I2.laid (t' := s2.toks) (fun b o e => Heap.get?_push_of_some _ e) (Nat.le_of_eq hD) ⟨Nat.zero_le _, [], 0, .nil, ?_⟩
    rw [← hD]
    exact Heap.get?_push_size _ rfl
  have lt2 : it < s2.heap.objs.size := by obtain ⟨o, e, -⟩ := id st2; exact Heap.lt_size e
  have st3 : s3.heap.IsListIter it a 0 := by rw [e3]; exact st2.at fun o e => Heap.get?_push_of_some _ e
  have f3 : FpOk X pins (upd H1 D (.lst [])) it := ⟨by rw [upd_ne (by rw [← hD]; exact Nat.ne_of_lt lt2)]; exact fit.1, fit.2⟩
  have P3 := I3.pin p (List.mem_append_left _ hpn)
  have I4 := inv_blkH (p := p) (block_start (fp := [it]) I3 ok hN fun b hb => by
      obtain rfl : b = it := by simpa using hb
      exact ⟨f3, by rw [e3, Heap.size_push]; exact Nat.lt_succ_of_lt lt2⟩)
    ⟨pushCells_keeps _ _ _ _ (Heap.get?_push_of_some _ P3.1), P3.2.1, Nat.ne_of_lt (Heap.lt_size P3.1), fun hm => (List.mem_cons.mp (I3.stkSub p.1 hm)).elim P3.2.2.1 P3.2.2.2.1, P3.2.2.2.2⟩
  obtain ⟨pg, pt, pe⟩ := hb s3 (upd H1 D (.lst [])) s3.heap.objs.size (cellsFrom (s3.heap.objs.size + 1) scope.names (cloFrom X.env.cells scope.names [])) [it] ⟨p, hc, List.mem_cons_self⟩
  show codeAny _ _ (.compStart (.ListComp elt [⟨tg, l, ifs, 0⟩] scope pos) 0 (.ref it) (.ref D) (compEnvC scope (cellsFrom (s3.heap.objs.size + 1) scope.names (cloFrom X.env.cells scope.names [])) s3.heap.objs.size X.env)) (compPost (model X.prog X.w) X.A X.xe use Qf (.ref D) s3.heap.objs.size) { s3 with heap := pushCells (s3.heap.push { cls := .type "dict", data := .dict #[] }) scope.names }
  generalize hce : compEnvC scope (cellsFrom (s3.heap.objs.size + 1) scope.names (cloFrom X.env.cells scope.names [])) s3.heap.objs.size X.env = ce at I4 pg pt pe ⊢
  have cL : ce.locals = s3.heap.objs.size := by subst hce; rfl
  generalize upd H1 D (.lst []) = H3 at *
  generalize hs4 : ({ s3 with heap := pushCells (s3.heap.push { cls := .type "dict", data := .dict #[] }) scope.names } : Shared) = s4 at I4 ⊢
  have st4 : s4.heap.IsListIter it a 0 := by rw [← hs4]; exact st3.at fun o e => pushCells_keeps _ _ _ _ (Heap.get?_push_of_some _ e)
  have np : p.1 ≠ it := f3.2.2.2.2.2 p (List.mem_append_left _ hpn)
  have exf := I4.ok.exf it List.mem_cons_self
  have exs := I4.ok.exfs it List.mem_cons_self
  -- the iterator has gone on
  have gone : ∀ {σ' : St} {H' : Hp} {s' : Shared} {h' : Heap}, Inv (blkH X s3 H3 scope ce [it] p) [] σ' H' s' → H' it = none → (∀ b o, b ≠ it → s'.heap.get? b = some o → h'.get? b = some o) → Inv (blkH X s3 H3 scope ce [it] p) [] σ' H' { s' with heap := h' } := fun {σ' H' s' h'} I' hn k =>
    I'.turned (t' := s'.toks) k hn exf.1 (.inl List.mem_cons_self) exf.2 fun q hq => by
      obtain rfl : q = p := by simpa using (show q ∈ [p] ++ ([] : List (Addr × Obj)) from hq)
      exact np
  have loop : codeAny (model X.prog X.w) X.A (.compLoop (.ListComp elt [⟨tg, l, ifs, 0⟩] scope pos) 0 (.ref it) (.ref D) ce) (compPost (model X.prog X.w) X.A X.xe use Qf (.ref D) s3.heap.objs.size) s4 := by
    refine compLoop_any (fun n s' => ∃ i H', Inv (blkH X s3 H3 scope ce [it] p) [] (wipe σ (own.map (·.2))) H' s' ∧ s'.heap.IsListIter it a i ∧ H' it = none ∧ W i n H') ?_ m0 ⟨0, H3, I4, st4, f3.1, w0⟩
    rintro n s5 ⟨i, H5, I5, st5, n5, w5⟩
    rcases turn i n H5 w5 with ⟨⟨ys, wl, hle⟩, wq⟩ | ⟨⟨ys, y, wl, hy⟩, Nx, hNx, step⟩
    · obtain ⟨its5, rv5, pl5, -⟩ := I5.list wl
      have len5 := rv5.length
      obtain ⟨x1, hot⟩ := HotC.at (X := blkH X s3 H3 scope ce [it] p) ⟨p, hc, List.mem_cons_self⟩ I5
      refine thnF (next_list_end_hot hot st5 pl5.isList (by simp; omega) (Q := fun r s6 => r = none ∧ Inv (blkH X s3 H3 scope ce [it] p) [] (wipe σ (own.map (·.2))) H5 s6) fun h' k => ⟨rfl, gone I5 n5 k⟩) fun r s6 ⟨hr, I6⟩ => ?_
      subst hr
      have I7 : Inv X pins σ H5 s6 := I3.call' (ch := [it]) I6.os I6.base I6.hok I6.bare fun b hb => by
        obtain rfl : b = it := by simpa using hb
        exact ⟨f3.2.2.2.1, f3.2.1, f3.2.2.2.2.1, f3.2.2.2.2.2⟩
      have nC : H5 s3.heap.objs.size = none := by
        have z : H5 ce.locals = none := I6.free
        rwa [cL] at z
      obtain ⟨m, hm, -⟩ := I6.loc
      have hm : s6.heap.Ns ce.locals m := hm
      rw [cL] at hm
      exact fin D s3.heap.objs.size s6 m H5 I7 wq hm (I3.fpOk (Nat.le_refl _) nC)
    · obtain ⟨its5, rv5, pl5, -⟩ := I5.list wl
      obtain ⟨u, hu, ru⟩ := rv5.get hy
      refine thnF (wpAny_pyNext_list_item st5 pl5.isList (x := u) (by simpa using hu) (Q := fun r s6 => r = some u ∧ Inv (blkH X s3 H3 scope ce [it] p) [] (wipe σ (own.map (·.2))) H5 s6 ∧ s6.heap.IsListIter it a (i + 1)) fun h' st' sb => ⟨rfl, gone I5 n5 fun b o hb e => (sb.2 b hb).trans e, st'⟩) fun r s6 ⟨hr, I6, st6⟩ => ?_
      subst hr
      obtain ⟨o6, ho6, hc6, hd6⟩ := id st6
      refine go_of ho6 hc6 hd6 (by decide) ?_
      have I6p : Inv (blkH X s3 H3 scope ce [it] p) [(it, o6)] (wipe σ (own.map (·.2))) H5 s6 := I6.pins_of fun q hq => by
        obtain rfl : q = (it, o6) := by simpa using hq
        exact ⟨ho6, n5, exf.1.symm.symm, exs, fun v z => by rw [hd6] at z; cases z⟩
      refine thnF (pg.run _ s6 _ H5 _ u _ I6p ru (step y H5 ⟨rfl, fun zs hz => by rw [I5.list_inj hz wl]; exact hy⟩)) fun _ s8 ⟨σ8, H8, I8, hw8, q8⟩ => ?_
      refine thnF (pt.run _ s8 σ8 H8 _ I8 q8) fun b s9 ⟨H9, I9, q9⟩ => ?_
      have next : ∀ {s' : Shared} {H' : Hp}, Inv (blkH X s3 H3 scope ce [it] p) [(it, o6)] σ8 H' s' → Nx H' → ∃ m, m < n ∧ ∃ i H', Inv (blkH X s3 H3 scope ce [it] p) [] (wipe σ (own.map (·.2))) H' s' ∧ s'.heap.IsListIter it a i ∧ H' it = none ∧ W i m H' := fun {s' H'} I' nx => by
        have P := I'.pin (it, o6) (by simp)
        obtain ⟨m, hm, w'⟩ := hNx H' nx
        refine ⟨m, hm, i + 1, H', (Inv.pins_of (pins' := []) I' fun q hq => by cases hq).weak (by rw [← hw8, wipe_length]) fun j v e => ?_, ⟨o6, P.1, hc6, hd6⟩, P.2.1, w'⟩
        rw [← hw8] at e
        exact (wipe_some e).1
      cases b with
      | false => exact next I9 q9
      | true =>
        refine thnF (pe.run _ s9 σ8 H9 _ I9 q9) fun z s10 ⟨yv, H10, I10, r10, acc, hD10, hz10, nx⟩ => ?_
        exact app_ok (X := blkH X s3 H3 scope ce [it] p) I10 hD10 hz10 r10 fun s11 I11 => next I11 nx
  exact codeAny_compStart_list loop (wpAny_pyIter_listiter st4 loop)
/-- as a value -/
theorem pe_lcH {elt tg l : Expr} {ifs : List Expr} {scope : Scope} {own : List (Str × Nat)} {tl : TE} {g : TG} {tt : TT} {te : TE} {p : Addr × Obj} (hc : Hot1 X.A p) (hpn : p ∈ X.pn) (hN : X.N.Nodup) (hl : PE X l tl) (ok : BlkOk X.N X.env.scope scope own)
    (hb : ∀ (s : Shared) (H : Hp) (C : Addr) (cl : List (Str × Addr)) (fp : List Addr), HotC (blkH X s H scope (compEnvC scope cl C X.env) fp p) → PG (blkH X s H scope (compEnvC scope cl C X.env) fp p) tg g ∧ PTs (blkH X s H scope (compEnvC scope cl C X.env) fp p) ifs tt ∧ PE (blkH X s H scope (compEnvC scope cl C X.env) fp p) elt te)
    (hs : ∀ x, foldedSetIterable l X.env x = pure x := by intro _; rfl) : PE X (.ListComp elt [⟨tg, l, ifs, 0⟩] scope pos) (tLc (iList X.K tl) g tt te (own.map (·.2))) :=
  ⟨fun pins s σ H Q I h => by
    rw [eval_ListComp]
    exact lc_hot hc hpn hN I hl ok hb hs h fun D C s' m H' I' q hn ⟨f0, f1, f2, f3, f4, f5⟩ => ⟨m, hn, fun h'' sb => ⟨.ref D, H', I'.turned (t' := s'.toks) (fun b o hb e => (sb.2 b hb).trans e) f0 f1 f3 f4 f5, rfl, q⟩⟩⟩
/-- name = [..] on one line, the name a local -/
theorem ps_setLcH {i : Nat} {y : Str} {py spos : Pos} {elt tg l : Expr} {ifs : List Expr} {scope : Scope} {own : List (Str × Nat)} {tl : TE} {g : TG} {tt : TT} {te : TE} {p : Addr × Obj} (hc : Hot1 X.A p) (hpn : p ∈ X.pn) (hN : X.N.Nodup) (hy : X.N[i]? = some y) (hyl : X.env.scope.names.lookup y = some .local)
    (hsw : swapsWith (.ListComp elt [⟨tg, l, ifs, 0⟩] scope pos) (some (.Name y py)) spos.line X.env = pure true) (hl : PE X l tl) (ok : BlkOk X.N X.env.scope scope own)
    (hb : ∀ (s : Shared) (H : Hp) (C : Addr) (cl : List (Str × Addr)) (fp : List Addr), HotC (blkH X s H scope (compEnvC scope cl C X.env) fp p) → PG (blkH X s H scope (compEnvC scope cl C X.env) fp p) tg g ∧ PTs (blkH X s H scope (compEnvC scope cl C X.env) fp p) ifs tt ∧ PE (blkH X s H scope (compEnvC scope cl C X.env) fp p) elt te)
    (hs : ∀ x, foldedSetIterable l X.env x = pure x := by intro _; rfl) : PS X (.Assign [.Name y py] (.ListComp elt [⟨tg, l, ifs, 0⟩] scope pos) spos) (tAsg (tLc (iList X.K tl) g tt te (own.map (·.2))) (gName i)) :=
  ⟨fun pins s σ H D I h => by
    rw [exec_Assign_Name_used _ _ _ _ hsw]
    refine wpAny_bind (wpAny_standAt (wpAny_bind ?_))
    show wpAny _ X.A (do let _ ← comprehension (.ListComp elt [⟨tg, l, ifs, 0⟩] scope pos) scope X.env (firstIterPos [⟨tg, l, ifs, 0⟩] pos) (newList []) false (eval l X.env) (some (assign (.Name y py) X.env))) _ _ s
    refine wpAny_bind (thn (lc_hot (Q := fun x H1 => gName i x σ H1 D.nx) (Qf := fun _ s' => SP X pins D .next s') hc hpn hN I hl ok hb hs h fun L C s' m H' I' q hn ⟨f0, f1, f2, f3, f4, f5⟩ => ?_) fun _ s' hq => wpAny_pure (wpAny_pure hq))
    refine wpAny_assign_Name (store_ok2 (v := V.ref L) I' hN hy (.inl hyl) rfl (fun s2 I2 ⟨a, sb, ha⟩ => ?_) (.inr hyl))
    have haC : C ≠ a := ha.elim (fun z => by rw [z]; exact f1) fun z e => f4 y a z e.symm
    exact ⟨m, hn.sameBut sb haC, fun h3 sb3 => ⟨_, H', I2.turned (t' := s2.toks) (fun b o hb e => (sb3.2 b hb).trans e) f0 f1 f3 f4 f5, q⟩⟩⟩
end
end FLH

/-! FL23: own exceptions raised and caught; defs that run while one is handled. -/
namespace FL
open PySem PySem.Spec PyProof.Rows L2
open L2H (Hot1 HotC PinOk RoomH)
/-- an own class of exceptions, made with a text, below ValueError -/
structure ExcOk (K : PySem.W.Frag) (mg : Str → Option Value) (x : Str) (C : Addr) : Prop where
  g : mg x = some (.ref C)
  k : PySem.W.keepIn K (.ref C) = true
  e : PySem.W.excIn K C [.type "ValueError", .type "Exception", .type "BaseException", .type "object"] "ValueError.__new__" = true
  b : PySem.W.subIn K (.ref C) (.type "BaseException") = some true
  t : PySem.W.typeIn K (.ref C) = some (.type "type")
  x : L2.ExcC K C
section
variable {X : Cx} {L : Lw} {W : WX} {pos p : Pos} {e : Expr} {es : List Expr} {t : TA} {v : Wa}
/-! ### raise -/
def wRaise (c : Addr) : Ws := fun _ E => E.ex (.ref c)
theorem fs_raise {x m : Str} {C : Addr} {j : Nat} {p2 pos' : Pos} (tk : L2N.Takes X W) (h : ExcOk X.K X.mg x C) (hc : X.calm = true := by rfl) (hg : Gl X x := by rfl) (hdb : (x == ("__debug__" : Str)) = false := by decide) :
    FS X L W (.Raise (some (.Call (.Name x p) [.Constant (.str m) j p2] [] pos)) none pos') (fun _ σ H => W (.ref C) none σ H) (wRaise C) :=
  ⟨L2N.ps_raise hc tk (L2N.pmk_own PySem.F.excBase_ValueError h.e h.g h.k (raises_own h.b h.t) hg hdb), fun b F s σ H E D' I h ok => ok.ex _ F s σ H I (Same.refl F) h⟩
/-! ### the caught exception as an argument, its class -/
theorem px_at {K : PySem.W.Frag} {b : Beg} {F : Hp} {s : Sl} {σ : L2.St} {H : Hp} {i : Nat} {a : Addr} (I : Rel K L b F s σ H) (e : s[i]? = some (.px a)) : σ[i]? = some (some (.ref a)) := by
  have e1 : σ.getD i none = some (.ref a) := I.slot i _ e
  have hj : i < σ.length := by rw [I.len]; exact (List.getElem?_eq_some_iff.mp e).1
  rw [List.getD_eq_getElem?_getD, List.getElem?_eq_getElem hj] at e1
  rw [List.getElem?_eq_getElem hj]
  exact congrArg some e1
def wAPx (i : Nat) (wr : Wa) : Wa := fun s Q R => match s[i]? with
  | some (.px a) => wr s (fun xs => Q (.px a :: xs)) R
  | _ => False
theorem fa_px (i : Nat) {x : Str} (hr : FA X L W es t v) (hN : X.N[i]? = some x := by rfl) (hv : Vis X.env.scope x := by first | exact Or.inl rfl | exact Or.inr (Or.inl rfl) | exact Or.inr (Or.inr rfl)) (hd : (x == ("__debug__" : Str)) = false := by decide)
    (hcd : (x == ("__classdict__" : Str)) = false := by decide) (hs : starEach (.Name x pos :: es) X.env = (false, eval (.Name x pos) X.env) :: starEach es X.env := by rfl) : FA X L W (.Name x pos :: es) (tCons (tVar i) t) (wAPx i v) := by
  refine ⟨pa_cons (pv i hN hv hd hcd) hr.pe hs, fun b F s σ H Q R k I h hx kk => ?_⟩
  unfold wAPx at h
  split at h
  · rename_i a q
    refine ⟨_, px_at I q, ?_⟩
    exact hr.snd b F s σ H _ R _ I h hx fun F2 ds vs H2 I2 m2 k2 r2 h2 => kk F2 (.px a :: ds) _ H2 I2 m2 k2 ⟨rfl, r2⟩ h2
  · exact h.elim
theorem call_isH {D : Addr} {p : Addr × Obj} (hp : p ∈ X.pn) (C : L2.ExcC X.K D) (hz : Zc (.ref D) none p.2) (hf : ∃ vs, p.2.data = .fields vs) : CallR X (.builtin "isinstance") (rIsE X.K D p.1) := by
  intro pins s σ H xs us Q I r h
  obtain ⟨c, cv, b, rfl, hcv, e, q⟩ := h
  cases r with
  | cons rx rr =>
    cases rr with
    | cons rt rr =>
      cases rr
      cases rx
      have ec := hcv _ rt
      subst ec
      obtain ⟨hget, -⟩ := I.pin p (List.mem_append_left _ hp)
      obtain ⟨vs, hv⟩ := hf
      have J : PySem.W.InstAt s.heap p.1 p.2 D none := by
        obtain ⟨a, oc, od, oda, osl⟩ := p
        obtain ⟨h1, h2⟩ := hz
        dsimp only at h1 h2 hv
        subst h1 h2 hv
        exact ⟨hget, rfl, rfl, trivial⟩
      exact PySem.W.kia_one (PySem.W.handS_kitx_exc C.hg C.hk C.hs C.hd C.ha C.hn C.ht C.hm) I.kIn J e (fun z => nomatch z) fun tk => ⟨.bl b, H, I.kept (t' := tk) fun _ _ z => z, rfl, q⟩
def wIsX (i : Nat) (a : Addr) (b : Bool) : We := fun s Q _ => s[i]? = some (.px a) ∧ Q (.bool b)
theorem fe_isx (i : Nat) {n x : Str} {C D : Addr} {b : Bool} {p2 p3 : Pos} {q : Addr × Obj} (hp : q ∈ X.pn) (hz : Zc (.ref D) none q.2) (hf : ∃ vs, q.2.data = .fields vs) (hD : L2.ExcC X.K D) (hx : X.mg x = some (.ref C)) (hk : PySem.W.kitOne X.K (.ref D) (.ref C) = some b)
    (hm : X.mg "isinstance" = none) (hb : bootBuiltins "isinstance" = some (.builtin "isinstance")) (hg : Gl X "isinstance" := by rfl) (hgx : Gl X x := by rfl) (hdx : (x == ("__debug__" : Str)) = false := by decide)
    (hN : X.N[i]? = some n := by rfl) (hv : Vis X.env.scope n := by first | exact Or.inl rfl | exact Or.inr (Or.inl rfl) | exact Or.inr (Or.inr rfl)) (hd : (n == ("__debug__" : Str)) = false := by decide) (hcd : (n == ("__classdict__" : Str)) = false := by decide)
    (he : starEach (.Name n p2 :: [.Name x p3]) X.env = (false, eval (.Name n p2) X.env) :: starEach [.Name x p3] X.env := by rfl) (he2 : starEach [.Name x p3] X.env = (false, eval (.Name x p3) X.env) :: starEach [] X.env := by rfl) :
    FE X L W (.Call (.Name "isinstance" p) [.Name n p2, .Name x p3] [] pos) (tCB (rIsE X.K D q.1) (tCons (tVar i) (tCons (tC (.ref C)) tNil))) (wIsX i q.1 b) := by
  refine ⟨pe_callB (call_isH hp hD hz hf) hg hm hb (pa_cons (pv i hN hv hd hcd) (pa_cons (pe_glob hgx hx rfl hdx) pa_nil he2) he) (by decide) (by decide) he rfl, fun b' F s σ H Q R k I h hx kk => ?_⟩
  exact ⟨_, px_at I h.1, _, _, b, rfl, fun u r => r, hk, kk F _ _ H I (Same.refl F) Kp.refl (.bl b) h.2⟩
/-! ### defs that run while an exception is handled -/
structure FnT (P : Program) (w : World) (K : PySem.W.Frag) (mg : Str → Option Value) (base : Heap) (L : Lw) (k : Nat) (f : Addr) (fd : FuncData) (ps : List Str) (D : Addr) (sp : Addr → Fs) : Prop where
  run : ∀ (A : Around) (outer : List Env) (s : Shared) (H : Hp) (args : Args) (us : List Value) (vs : List V) (Q : VK) (p : Addr × Obj), RoomH k A → Hot1 A p → PinOk outer H s p → Zc (.ref D) none p.2 → Env0 P w K mg base A outer s H → BindsTo s fd args (ps.zip us) → Vals vs us → vs.length = ps.length →
    Spf K L (sp p.1) vs H Q (fun _ _ _ => False) → codeAny (model P w) A (.call (.ref f) args) (CR (L2N.CX P w) outer P w H s Q (fun _ _ _ => False)) s
theorem fn_flatT {P : Program} {w : World} {K : PySem.W.Frag} {mg : Str → Option Value} {base : Heap} {x qual : Str} {st : Stmt} {f D : Addr} {fd : FuncData} {N ps : List Str} {k : Nat} {sp : Addr → Fs} (Fn : Fun K x qual st f fd) (S : FnScope N ps (defScope st))
    (hbody : ∀ (cdv : Value), fd.code = cdv → ∀ (A : Around) (outer : List Env) (s : Shared) (H : Hp) (p : Addr × Obj), Hot1 A p → Zc (.ref D) none p.2 → (∃ vs, p.2.data = .fields vs) →
      ∃ t ws, FSs (L2H.cxH (L2N.CX P w) P w K mg base N qual (defScope st) f cdv A outer s H (fun _ _ _ => False) p) L (fun _ _ _ _ => False) (defBody st) t ws ∧ ∀ cs q r, sp p.1 cs q r → ws (startS N.length cs) { nx := fun _ => q .none, rt := q, ex := fun _ => False }) :
    FnT P w K mg base L (k + 1) f fd ps D sp := by
  obtain ⟨oc, od, kV, doc, pm, an, cdv, ct, osl, rfl, lk, hcd⟩ := Fn.ex
  refine ⟨fun A outer s H args us vs Q p hr hot hpin hz e0 hb r hl hsp => ?_⟩
  have KX : K.In s.heap := e0.mod.kin.keeps fun b o e => (e0.bs b o e).1
  have hkind : ∀ y ∈ ps.zip us, (defScope st).names.lookup y.1 = some .local ∨ ((defScope st).names.lookup y.1 = some .cell ∧ ((cellsFrom (s.heap.objs.size + 1) (defScope st).names []).lookup y.1).isSome = true) := fun ⟨n, v⟩ hy =>
    (S.par n (List.of_mem_zip hy).1).elim .inl fun q => .inr ⟨q, PySem.W.cellsFrom_some _ _ _ (.inl q)⟩
  refine codeAny_call_function hr.depth (KX _ _ lk) rfl S.co S.gen rfl (PySem.W.codeRec_of KX hcd) (hb _ _ _ _ ?_)
  refine wpAny_newFunctionEnv_cells S.kind hkind fun env he s1 x => ?_
  subst he
  refine ⟨(e0.mod.nolimit.keeps fun b o e => (e0.bs b o e).1).keeps x.toInCall.keep, codeAny_func ?_⟩
  obtain ⟨t, ws, hd, hq⟩ := hbody cdv rfl A outer s H p hot hz (let ⟨vs, h, _⟩ := hot.2; ⟨vs, h⟩)
  obtain ⟨b, F, cs, q, rr, g, ha, hw, h1, h2⟩ := hsp
  have I := L2H.inv_startH (CX := L2N.CX P w) (E := fun _ _ _ => False) S hpin e0 hl r x
  refine wpAny_mono (hd.pe.run [] s1 (L2.start N vs) H { nx := fun _ H' => Q .non H', rt := Q } I (hd.snd b F _ _ H { nx := fun _ => q .none, rt := q, ex := fun _ => False } _ (rel_start g ha) (hq cs q rr hw)
    ⟨fun F' s' σ' H' I m z => h1 F' .non .none H' I.toGrd m .non z, fun F' s' σ' H' v d I m r z => h1 F' v d H' I.toGrd m r z, fun F' s' σ' H' I m z => z.elim, fun F' s' σ' H' I m z => z.elim, fun cls F' s' σ' H' I m z => z.elim, fun F' s' σ' H' p vs ds I m fr e r z => z.elim⟩)) (fun fl s' hs => ?_) fun e s' hs => hs
  cases fl with
  | ret u =>
    obtain ⟨v, σ', H', J, rv, q⟩ := hs
    exact ⟨v, H', J.os, J.bare, J.base, J.hok, rv, q⟩
  | next =>
    obtain ⟨σ', H', J, q⟩ := hs
    exact ⟨.non, H', J.os, J.bare, J.base, J.hok, rfl, q⟩
  | brk =>
    obtain ⟨_, _, _, q⟩ := hs
    exact False.elim q
  | cont =>
    obtain ⟨_, _, _, q⟩ := hs
    exact False.elim q
/-- a call while an exception is handled: none leaves it -/
def wCallT (w : Fs) (v : Wa) : We := fun s Q _ => v s (fun cs => w cs Q fun _ => False) fun _ => False
theorem fe_callT {x : Str} {k : Nat} {f D : Addr} {fd : FuncData} {ps : List Str} {w : Addr → Fs} {q : Addr × Obj} (G : FnT X.prog X.w X.K X.mg X.base L k f fd ps D w) (hr : RoomH k X.A) (hp : q ∈ X.pn) (hot : Hot1 X.A q) (hz : Zc (.ref D) none q.2) (hm : X.mg x = some (.ref f)) (hk : PySem.W.keepIn X.K (.ref f) = true) (hb : Binds X.K fd ps [])
    (len : ∀ cs Q R, w q.1 cs Q R → cs.length = ps.length) (ha : FA X L W (e :: es) t v) (hg : Gl X x := by rfl) (hdb : (x == ("__debug__" : Str)) = false := by decide) (he : starEach (e :: es) X.env = (false, eval e X.env) :: starEach es X.env := by rfl) (hpl : (backTo pos (starEach es X.env)).any (·.1) = false := by rfl) :
    FE X L W (.Call (.Name x p) (e :: es) [] pos) (fun σ H Q => t σ H fun vs H1 => vs.length = ps.length ∧ Spf X.K L (w q.1) vs H1 Q (fun _ _ _ => False)) (wCallT (w q.1) v) := by
  refine ⟨⟨fun pins s σ H Q I h => ?_⟩, fun b F s σ H Q R k I h hx kk => ?_⟩
  · refine wpAny_Call_Name_kw (ld_glob I hg hm ?_ hdb)
    refine PySem.W.callWith_K (h₀ := X.base) I.ok.mod.kin hk (thn (ha.pe.run pos pins s σ H _ I h) fun us s1 ⟨vs, H1, I1, r, hl, q1⟩ => ⟨I1.kIn, ?_⟩) he hpl
    have b := hb s1 us I1.kIn (by rw [List.append_nil, ← r.length]; exact hl)
    rw [List.append_nil] at b
    have P1 := I1.pin q (List.mem_append_left _ hp)
    refine wpAny_call (codeAny_mono (G.run X.A X.stack s1 H1 ⟨us, []⟩ us vs Q q hr hot ⟨P1.1, P1.2.1, fun hm => (List.mem_cons.mp (I1.stkSub q.1 hm)).elim P1.2.2.1 P1.2.2.2.1, P1.2.2.2.2⟩ hz I1.env0 b r hl q1) fun r s' hq => ?_)
    cases r with
    | error e => exact L2N.passAt (W := fun _ _ _ _ => False) (fun u s' ⟨_, _, _, _, _, _, _, _, _, _, _, _, _, _, _, _, z⟩ => z.elim) σ pins H1 s1 e s' I1 hq
    | ok fl =>
      cases fl with
      | ret u => exact I1.after hq
      | next => exact False.elim hq
      | brk => exact False.elim hq
      | cont => exact False.elim hq
  · refine ha.snd b F s σ H _ (fun _ => False) _ I h (fun _ _ _ _ _ z => z.elim) fun F1 cs vs H1 I1 m1 k1 r1 h1 => ⟨by rw [r1.len]; exact len _ _ _ h1, ⟨H1, F1, b.dr⟩, F1, cs, Q, fun _ => False, I1.toGrd.enter, r1.at, h1, fun F' v d H' g m r q => ?_, fun cls F' H' g m q => ?_⟩
    · exact kk F' d v H' (I1.back g) (m1.trans m) (k1.trans g.keep) r q
    · exact q.elim
end
end FL

/-! FL24: comprehensions while an exception is handled; try. -/
namespace FL
open PySem PySem.Spec PyProof.Rows L2
open L2H (Hot1 HotC PinOk RoomH)
open FLH (blkH)
section
variable {X : Cx} {L : Lw} {W : WX} {pos p : Pos} {e tg l elt : Expr} {es tgs ifs : List Expr} {te tl : TE} {we wl' : We} {g : TG} {gs : TGs} {wg : Wg} {wgs : List D → Sl → (Sl → Prop) → Prop} {vs : List Nat} {tt : TT} {wt : Wt} {scope : Scope} {own : List (Str × Nat)} {q : Addr × Obj}
def wListI (we : We) : Wl := fun s Q R => we s (fun d => match d with | .list ds => Q ds | _ => False) R
theorem snd_iList (he : FE X L W e te we) : SndI X.K L W (iList X.K te) (wListI we) := by
  intro b F s σ H Q R k I h hx kk
  refine he.snd b F s σ H _ R _ I h hx fun F1 d v H1 I1 m1 k1 r1 q => ?_
  cases r1 with
  | lst h1 h2 => exact ⟨_, rfl, ⟨_, I1.sub.seq h1⟩, kk F1 _ _ H1 I1 m1 k1 (wkd_list h1 h2) q⟩
  | _ => exact q.elim
theorem fc_tupH {k n : Nat} (hc : HotC X) (h : FGcs X L vs tgs gs wgs) (hn : (assignEach tgs X.env).length = n := by rfl) (hst : (assignEach tgs X.env).findIdx? (·.1) = none := by rfl) : FGc X L vs (.Tuple tgs k pos) (gTup X.K n gs) (wgTup n wgs) :=
  { pe := FLH.pg_tupH hc h.toFGs.pe hn hst
    snd := fun b F s σ H v d Q k I r q kk => by
      unfold wgTup at q
      split at q
      · cases r with
        | tup h1 h2 => exact ⟨_, _, rfl, same_sqT I.sub h1, by rw [dps_len h2]; exact q.1, h.toFGs.snd b F s σ H _ _ _ _ I h2 q.2 kk⟩
      · exact q.elim
    only := fun v σ H k k' ⟨a, xs, e, h1, h2, h3⟩ q => ⟨a, xs, e, h1, h2, h.only xs σ H k k' h3 q⟩ }
structure BlkT (X : Cx) (L : Lw) (scope : Scope) (q : Addr × Obj) (vs : List Nat) (tg elt : Expr) (ifs : List Expr) (g : TG) (tt : TT) (te : TE) (wg : Wg) (wt : Wt) (we : We) : Prop where
  g : ∀ (s : Shared) (H : Hp) (C : Addr) (cl : List (Str × Addr)) (fp : List Addr), HotC (blkH X s H scope (compEnvC scope cl C X.env) fp q) → FGc (blkH X s H scope (compEnvC scope cl C X.env) fp q) L vs tg g wg
  t : ∀ (s : Shared) (H : Hp) (C : Addr) (cl : List (Str × Addr)) (fp : List Addr), HotC (blkH X s H scope (compEnvC scope cl C X.env) fp q) → FTs (blkH X s H scope (compEnvC scope cl C X.env) fp q) L WF ifs tt wt
  e : ∀ (s : Shared) (H : Hp) (C : Addr) (cl : List (Str × Addr)) (fp : List Addr), HotC (blkH X s H scope (compEnvC scope cl C X.env) fp q) → FE (blkH X s H scope (compEnvC scope cl C X.env) fp q) L WF elt te we
theorem BlkT.pes (h : BlkT X L scope q vs tg elt ifs g tt te wg wt we) : ∀ (s : Shared) (H : Hp) (C : Addr) (cl : List (Str × Addr)) (fp : List Addr), HotC (blkH X s H scope (compEnvC scope cl C X.env) fp q) → PG (blkH X s H scope (compEnvC scope cl C X.env) fp q) tg g ∧ PTs (blkH X s H scope (compEnvC scope cl C X.env) fp q) ifs tt ∧ PE (blkH X s H scope (compEnvC scope cl C X.env) fp q) elt te :=
  fun s H C cl fp hot => ⟨(h.g s H C cl fp hot).pe, (h.t s H C cl fp hot).pe, (h.e s H C cl fp hot).pe⟩
theorem BlkT.snd (h : BlkT X L scope q vs tg elt ifs g tt te wg wt we) (hc : Hot1 X.A q) (hl : FE X L W l tl wl') : SndN X.K L W (tLc (iList X.K tl) g tt te vs) (wLc (wListI wl') wg wt we vs) := by
  have hot : HotC (blkH X X.s_0 X.H_0 scope (compEnvC scope [] 0 X.env) [] q) := ⟨q, hc, List.mem_cons_self⟩
  exact snd_lc (snd_iList hl) ⟨_, _, h.g X.s_0 X.H_0 0 [] [] hot, rfl⟩ (h.t X.s_0 X.H_0 0 [] [] hot).snd (h.e X.s_0 X.H_0 0 [] [] hot).snd
theorem fn_lcH (hc : Hot1 X.A q) (hpn : q ∈ X.pn) (hN : X.N.Nodup) (hl : FE X L W l tl wl') (ok : BlkOk X.N X.env.scope scope own) (h : BlkT X L scope q (own.map (·.2)) tg elt ifs g tt te wg wt we) (hs : ∀ x, foldedSetIterable l X.env x = pure x := by intro _; rfl) :
    FN X L W (.ListComp elt [⟨tg, l, ifs, 0⟩] scope pos) (tLc (iList X.K tl) g tt te (own.map (·.2))) (wLc (wListI wl') wg wt we (own.map (·.2))) :=
  ⟨FLH.pe_lcH hc hpn hN hl.pe ok h.pes hs, h.snd hc hl⟩
theorem fs_setLcH {i : Nat} {y : Str} {py spos : Pos} (hc : Hot1 X.A q) (hpn : q ∈ X.pn) (hN : X.N.Nodup) (hl : FE X L W l tl wl') (ok : BlkOk X.N X.env.scope scope own) (h : BlkT X L scope q (own.map (·.2)) tg elt ifs g tt te wg wt we) (hy : X.N[i]? = some y := by rfl) (hyl : X.env.scope.names.lookup y = some .local := by rfl)
    (hsw : swapsWith (.ListComp elt [⟨tg, l, ifs, 0⟩] scope pos) (some (.Name y py)) spos.line X.env = pure true := by rfl) (hs : ∀ x, foldedSetIterable l X.env x = pure x := by intro _; rfl) :
    FS X L W (.Assign [.Name y py] (.ListComp elt [⟨tg, l, ifs, 0⟩] scope pos) spos) (tAsg (tLc (iList X.K tl) g tt te (own.map (·.2))) (gName i)) (wSetL i (wLc (wListI wl') wg wt we (own.map (·.2)))) := by
  refine ⟨FLH.ps_setLcH hc hpn hN hy hyl hsw hl.pe ok h.pes hs, fun b F s σ H E D' I h' ok' => ?_⟩
  refine h.snd hc hl b F s σ H _ E.ex _ I h' ok'.exw fun F1 ds q vs H1 I1 m1 k1 fr e1 r1 z => ?_
  have I2 := I1.tell fr.h0 fr.hd e1 fr.hf (fun ps z => by cases z) fr.hn
  exact ok'.nx _ _ _ H1 (I2.put (.lst (.inl (.inl upd_same)) (dps_mono (same_upd fr.hf) r1))) (m1.trans (same_upd fr.hf)) z
/-! ### try -/
/-- a block's reading, as a term of its own -/
def semS (K : PySem.W.Frag) (L : Lw) (W : WX) (w : Ws) : TS := fun D σ H => ∃ b F s E, Rel K L b F s σ H ∧ w s E ∧ EnOk K L W b F E D
theorem FSs.sem {sts : List Stmt} {t : TS} {w : Ws} (h : FSs X L W sts t w) : PSs X sts (semS X.K L W w) :=
  ⟨fun pins s σ H D I ⟨b, F, sl, E, R, hw, ok⟩ => h.pe.run pins s σ H D I (h.snd b F sl σ H E D R hw ok)⟩
theorem rel_none {K : PySem.W.Frag} {b : Beg} {F : Hp} {s : Sl} {σ : L2.St} {H : Hp} (R : Rel K L b F s σ H) (i : Nat) (a : Addr) : Rel K L b F ((List.replicate s.length .no).set i (.px a)) (σ.set i (some (.ref a))) H :=
  { R.toGrd with
    len := by rw [List.length_set, List.length_set, List.length_replicate, R.len]
    slot := fun j c e => by
      rw [List.getElem?_set] at e
      split at e
      · split at e
        · cases e
          rename_i h1 h2
          subst h1
          rw [List.length_replicate] at h2
          rw [List.getD_eq_getElem?_getD, List.getElem?_set, if_pos rfl, if_pos (by rw [R.len]; exact h2)]
          rfl
        · cases e
      · rw [List.getElem?_replicate] at e
        split at e
        · cases e; trivial
        · cases e
    apart := fun j k a n h1 => by
      exfalso
      rw [List.getElem?_set] at h1
      split at h1
      · split at h1 <;> exact h1
      · rw [List.getElem?_replicate] at h1
        split at h1 <;> exact h1 }
/-- what is left of the slots in an except suite: the exception alone -/
def sufS (n i : Nat) (a : Addr) : Sl := (List.replicate n .no).set i (.px a)
def wTry (n i : Nat) (wb : Ws) (Ds : List Addr) (w2 : Addr → Addr → Ws) : Ws := fun s E => wb s { E with ex := fun cls => ∃ D ∈ Ds, cls = .ref D ∧ ∀ a, w2 D a (sufS n i a) { nx := fun s' => E.nx (s'.set i .no), rt := E.rt, ex := fun _ => False, bk := fun s' => E.bk (s'.set i .no), ct := fun s' => E.ct (s'.set i .no), rn := E.rn } }
theorem fs_try {x n : Str} {i : Nat} {S : Addr} {Ds : List Addr} {body suite : List Stmt} {b₀ : Stmt} {np pos' : Pos} {wb : Ws} {w2 : Addr → Addr → Ws} (hN : X.N.Nodup) (hS : X.mg x = some (.ref S)) (hD : ∀ D ∈ Ds, PySem.W.exmOne X.K (.ref D) (.ref S) = some true) (tk : L2N.Takes X W)
    (hb : ∀ (W' : WX) (pn : List (Addr × Obj)) (xe : Value → Shared → Prop), L2N.Takes (X.tr pn xe) W' → PassesOwn (model X.prog X.w) X.A X.env xe → ∃ t, FSs (X.tr pn xe) L W' body t wb)
    (hsu : ∀ D ∈ Ds, ∀ (a : Addr) (oe : Obj) (pn : List (Addr × Obj)), Zc (.ref D) none oe → Hot1 (X.A.mark (some (.ref a))) (a, oe) → ∃ t, FSs (X.suite a ((a, oe) :: pn)) L (fun _ _ _ _ => False) (b₀ :: suite) t (w2 D a))
    (hs : X.stack = X.env :: X.outer := by rfl) (hf : X.env.frame = some X.env.locals := by rfl) (hi : X.N[i]? = some n := by rfl) (hln : X.env.kindOf n = some .local := by rfl) (hg : Gl X x := by rfl) (hdb : (x == ("__debug__" : Str)) = false := by decide) :
    FS X L W (.Try body [.ExceptHandler (some (.Name x np)) (some n) (b₀ :: suite) pos'] [] [] pos)
      (fun D σ H => semS X.K L (L2.wAs X.K (.ref S) i (fun a cls d D σ H => ∃ D0 ∈ Ds, cls = .ref D0 ∧ d = none ∧ (σ.length = X.N.length → semS X.K L (fun _ _ _ _ => False) (w2 D0 a) D σ H)) W D) wb D σ H) (wTry X.N.length i wb Ds w2) := by
  refine ⟨L2N.ps_try_as hs hf hN hi hln ⟨hg, hdb, .inl hS⟩ tk (tb := fun W' => semS X.K L W' wb) (ts := fun a cls d D σ H => ∃ D0 ∈ Ds, cls = .ref D0 ∧ d = none ∧ (σ.length = X.N.length → semS X.K L (fun _ _ _ _ => False) (w2 D0 a) D σ H))
    (fun W' pn xe tk' po => (hb W' pn xe tk' po).elim fun t h => FSs.sem (X := X.tr pn xe) h) (fun a oe cls d pn hz hf' => ?_), fun b F s σ H E D' I h ok => ?_⟩
  · refine ⟨fun pins s σ H D I ⟨D0, hm, e1, e2, hq⟩ => ?_⟩
    subst e1 e2
    obtain ⟨vs, hv⟩ := hf'
    obtain ⟨t, ht⟩ := hsu D0 hm a oe pn ⟨hz.1, hz.2.1⟩ ⟨rfl, vs, hv, hz.2.2 vs hv⟩
    exact ht.sem.run pins s σ H D I (hq I.len)
  · refine ⟨b, F, s, _, I, h, fun F' s' σ' H' I' m z => ok.nx F' s' σ' H' I' m z, fun F' s' σ' H' v d I' m r z => ok.rt F' s' σ' H' v d I' m r z, fun F' s' σ' H' I' m z => ok.bk F' s' σ' H' I' m z, fun F' s' σ' H' I' m z => ok.ct F' s' σ' H' I' m z, fun cls F' s' σ' H' I' m z => ?_, fun F' s' σ' H' p vs ds I' m fr e r z => ok.rn F' s' σ' H' p vs ds I' m fr e r z⟩
    obtain ⟨D0, hm, rfl, hw⟩ := z
    refine ⟨true, hD D0 hm, fun _ a _ => ⟨D0, hm, rfl, rfl, fun hl => ?_⟩, fun z => Bool.noConfusion z⟩
    rw [List.length_set] at hl
    have hn : s'.length = X.N.length := by rw [← I'.len]; exact hl
    refine ⟨b, F', sufS X.N.length i a, _, by unfold sufS; rw [← hn]; exact rel_none I' i a, hw a, ?_⟩
    have ok' := ok.mono m
    exact ⟨fun F1 s1 σ1 H1 I1 m1 z => ok'.nx F1 _ _ H1 I1.drop1 m1 z, fun F1 s1 σ1 H1 v d I1 m1 r z => ok'.rt F1 s1 σ1 H1 v d I1 m1 r z, fun F1 s1 σ1 H1 I1 m1 z => ok'.bk F1 _ _ H1 I1.drop1 m1 z, fun F1 s1 σ1 H1 I1 m1 z => ok'.ct F1 _ _ H1 I1.drop1 m1 z, fun cls F1 s1 σ1 H1 I1 m1 z => z.elim,
      fun F1 s1 σ1 H1 p vs ds I1 m1 fr e r z => ok'.rn F1 s1 σ1 H1 p vs ds I1 m1 fr e r z⟩
theorem FSs.any {ι : Type} {P : ι → Prop} {sts : List Stmt} {w : ι → Ws} (h : ∀ i, P i → ∃ t, FSs X L W sts t (w i)) : FSs X L W sts (semS X.K L W fun s E => ∃ i, P i ∧ w i s E) (fun s E => ∃ i, P i ∧ w i s E) :=
  ⟨⟨fun pins s σ H D I ⟨b, F, sl, E, R, ⟨i, hi, hw⟩, ok⟩ => (h i hi).elim fun t ht => ht.pe.run pins s σ H D I (ht.snd b F sl σ H E D R hw ok)⟩, fun b F s σ H E D' I h ok => ⟨b, F, s, E, I, h, ok⟩⟩
theorem room_mark {k : Nat} {A : Around} (r : RoomH k A) (v : Option Value) : RoomH k (A.mark v) := ⟨r.dp, r.un⟩
theorem exc_one {C : Addr} {P : Addr → Prop} (h : P C) : ∃ D ∈ [C], Value.ref C = .ref D ∧ P D := ⟨C, List.mem_cons_self, rfl, h⟩
/-! ### == of scalars, wherever -/
def dEqS : D → D → (Bool → Prop) → Prop := fun d e Q => scalD d e = true ∧ Q (PyData.eqv d e)
def dNeS : D → D → (Bool → Prop) → Prop := fun d e Q => scalD d e = true ∧ Q (!PyData.eqv d e)
theorem cmd_eqS : CmD X L .Eq rEq dEqS :=
  ⟨op_eq, ⟨by decide, by decide⟩, fun b F s σ H x y d e Q k I hx hy q kk => by
    obtain ⟨h1, h2⟩ := scal_eq (hx.at I.sub) (hy.at I.sub) q.1
    exact ⟨h1, by rw [h2]; exact kk _ q.2⟩⟩
theorem cmd_neS : CmD X L .NotEq rNe dNeS :=
  ⟨op_ne, ⟨by decide, by decide⟩, fun b F s σ H x y d e Q k I hx hy q kk => by
    obtain ⟨h1, h2⟩ := scal_eq (hx.at I.sub) (hy.at I.sub) q.1
    exact ⟨h1, by rw [h2]; exact kk _ q.2⟩⟩
end
end FL

/-! FL25: a list as what is unpacked. -/
namespace FL
open PySem PySem.Spec PyProof.Rows L2
section
variable {X : Cx} {L : Lw} {W : WX} {pos p : Pos} {tgs : List Expr} {gs : TGs} {wgs : List D → Sl → (Sl → Prop) → Prop}
def wgLst (n : Nat) (wgs : List D → Sl → (Sl → Prop) → Prop) : Wg := fun d s Q => match d with
  | .list ds => ds.length = n ∧ wgs ds s Q
  | _ => False
theorem fg_lst {k n : Nat} (hc : X.calm = true) (h : FGs X L tgs gs wgs) (hn : (assignEach tgs X.env).length = n := by rfl) (hst : (assignEach tgs X.env).findIdx? (·.1) = none := by rfl) : FG X L (.Tuple tgs k pos) (gLst X.K n gs) (wgLst n wgs) := by
  refine ⟨pg_lst hc h.pe hn hst, fun b F s σ H v d Q k I r q kk => ?_⟩
  unfold wgLst at q
  split at q
  · cases r with
    | lst h1 h2 => exact ⟨_, _, rfl, I.sub.seq h1, by rw [dps_len h2]; exact q.1, h.snd b F s σ H _ _ _ _ I h2 q.2 kk⟩
  · exact q.elim
end
end FL

namespace Lw
open PySem PySem.Spec PyProof.Rows L2 FL
def topS (i : Nat) : Stmt := PySem.Challenge.pw_nightsgiven_k56_whole_clocks_that_go_wro.main.body.getD i (.Pass ⟨0, 0, 0, 0⟩)
local macro_rules | `(tactic| walk_at "wp") => `(tactic| try dsimp only [u_seq, u_next, u_drop, u_ret, u_retO, u_ifS, u_asg, u_setO, u_par, u_par3, wDead, wDeadE, wIdxC, dEqS, dNeS, wRaise, wTry, wAPx, wIsX, wCallT, wListI, sufS, u_parO, u_par3O, u_parOc, u_aug, u_for, u_app, u_fix, u_gname, l_map1, l_map0, b_nt, b_nf, c_t, c_f, wVar, wVarB, wC, wOp, dI, dI0, dAdd, wNeg, wCmpV, wCmpT, dEq, dNe, dO, isNoneD, dIsN, dNotN, wAndT, wOrT, wNotT, truOk, truD, wTruT, wNotV, wAndV, wOrV, wIf, wChain, wBoolV, wIx, wNil, wCons, wTup, wLst, wN, wANil, wACons, wADr, wCall, wCallN, wgNil, wgCons, wgTup, wgLst, wSeqI, seqD, wRng1, wRng2, wRng3, wCal, dAbs, dMax2, dMin2, dInt1, wCalB, dLen, isIntD, isBoolD, isStrD, isTupD, isLstD, wIsi, wLRev, wListA, dTupA, startS, wO0, wO1, dSl, wSl, wSlN, wRepN, wRepT, dIn, dGcd, dIntsL, wStar, wSeti, wUnDr, wSetDr, spDraw, dBest, wSetL, wLc, wAll, wAny, wYes, stpAll, stpAny, u_wipe0, u_wipe1, u_lk0, u_lk1, lkC, spTake, List.getElem?_cons_zero, List.getElem?_cons_succ, List.getElem?_nil, List.set_cons_zero, List.set_cons_succ, List.length_cons, List.length_nil, List.replicate_succ, List.replicate_zero, List.cons_append, List.nil_append, Nat.reduceAdd, Nat.reduceSub])
local macro_rules | `(tactic| walk_at "sm") => `(tactic| try simp only [c_t, c_f, ix0, ix1, ix2, ix3, ix4, cond_dec, cond_not, ok_ii, ok_bb, ok_ss, ok_nn, ok_ni, ok_in, ok_nb, ok_bn, ok_ns, ok_sn, ok_is, ok_si, ok_bs, ok_sb, ev_ii, ev_bb, ev_ss, ev_nn, ev_ni, ev_in, ev_nb, ev_bn, ev_ns, ev_sn, ev_is, ev_si, ev_bs, ev_sb, true_and, and_true, decide_eq_true_eq, decide_eq_false_iff_not, Bool.not_eq_true', Bool.not_eq_false', Bool.not_true, Bool.not_false, Bool.false_eq_true, Bool.true_eq_false, reduceCtorEq, decide_true, decide_false, false_implies, forall_const, true_implies, not_true_eq_false, not_false_eq_true])
abbrev s_is_number : Stmt := topS 9
theorem sc_is_number : FnScope ["value", "least", "most"] ["value", "least", "most"] (defScope s_is_number) := ⟨rfl, rfl, rfl, by decide +kernel, rfl, by decide +kernel, by decide +kernel⟩
abbrev s_lowest : Stmt := topS 11
theorem sc_lowest : FnScope ["part", "whole", "common"] ["part", "whole"] (defScope s_lowest) := ⟨rfl, rfl, rfl, by decide +kernel, rfl, by decide +kernel, by decide +kernel⟩
abbrev s_plus : Stmt := topS 12
theorem sc_plus : FnScope ["one", "other"] ["one", "other"] (defScope s_plus) := ⟨rfl, rfl, rfl, by decide +kernel, rfl, by decide +kernel, by decide +kernel⟩
abbrev s_minus : Stmt := topS 13
theorem sc_minus : FnScope ["one", "other"] ["one", "other"] (defScope s_minus) := ⟨rfl, rfl, rfl, by decide +kernel, rfl, by decide +kernel, by decide +kernel⟩
abbrev s_times : Stmt := topS 14
theorem sc_times : FnScope ["one", "other"] ["one", "other"] (defScope s_times) := ⟨rfl, rfl, rfl, by decide +kernel, rfl, by decide +kernel, by decide +kernel⟩
abbrev s_is_dial_clock : Stmt := topS 20
theorem sc_is_dial_clock : FnScope ["value"] ["value"] (defScope s_is_dial_clock) := ⟨rfl, rfl, rfl, by decide +kernel, rfl, by decide +kernel, by decide +kernel⟩
abbrev s_check_time : Stmt := topS 21
theorem sc_check_time : FnScope ["time"] ["time"] (defScope s_check_time) := ⟨rfl, rfl, rfl, by decide +kernel, rfl, by decide +kernel, by decide +kernel⟩
abbrev s_rest_by_dial : Stmt := topS 22
theorem sc_rest_by_dial : FnScope ["value", "turns"] ["value"] (defScope s_rest_by_dial) := ⟨rfl, rfl, rfl, by decide +kernel, rfl, by decide +kernel, by decide +kernel⟩
abbrev s_shown_at : Stmt := topS 23
theorem sc_shown_at : FnScope ["clock", "time", "begin", "gain"] ["clock", "time"] (defScope s_shown_at) := ⟨rfl, rfl, rfl, by decide +kernel, rfl, by decide +kernel, by decide +kernel⟩
abbrev s_same_again : Stmt := topS 24
theorem sc_same_again : FnScope ["one", "other", "time", "apart", "away"] ["one", "other", "time"] (defScope s_same_again) := ⟨rfl, rfl, rfl, by decide +kernel, rfl, by decide +kernel, by decide +kernel⟩
abbrev s_right_again : Stmt := topS 25
theorem sc_right_again : FnScope ["clock", "time"] ["clock", "time"] (defScope s_right_again) := ⟨rfl, rfl, rfl, by decide +kernel, rfl, by decide +kernel, by decide +kernel⟩
abbrev s__law_open : Stmt := topS 27
theorem sc__law_open : FnScope ["script", "cells", "cell"] ["script"] (defScope s__law_open) := ⟨rfl, rfl, rfl, by decide +kernel, rfl, by decide +kernel, by decide +kernel⟩
abbrev s__law_mixed : Stmt := topS 28
theorem sc__law_mixed : FnScope ["cell", "turn", "number"] ["cell", "turn"] (defScope s__law_mixed) := ⟨rfl, rfl, rfl, by decide +kernel, rfl, by decide +kernel, by decide +kernel⟩
abbrev s__law_draw : Stmt := topS 29
theorem sc__law_draw : FnScope ["draws", "size", "turn", "left", "cells", "cell"] ["draws", "size"] (defScope s__law_draw) := ⟨rfl, rfl, rfl, by decide +kernel, rfl, by decide +kernel, by decide +kernel⟩
abbrev s__law_told : Stmt := topS 30
theorem sc__law_told : FnScope ["error", "kinds", "names", "name", "true"] ["error"] (defScope s__law_told) := ⟨rfl, rfl, rfl, by decide +kernel, rfl, by decide +kernel, by decide +kernel⟩
abbrev s__law_greatest : Stmt := topS 31
theorem sc__law_greatest : FnScope ["one", "other", "k", "rest"] ["one", "other"] (defScope s__law_greatest) := ⟨rfl, rfl, rfl, by decide +kernel, rfl, by decide +kernel, by decide +kernel⟩
abbrev s__law_lowest : Stmt := topS 32
theorem sc__law_lowest : FnScope ["part", "whole", "common"] ["part", "whole"] (defScope s__law_lowest) := ⟨rfl, rfl, rfl, by decide +kernel, rfl, by decide +kernel, by decide +kernel⟩
abbrev s__law_made : Stmt := topS 33
theorem sc__law_made : FnScope ["part", "whole", "found"] ["part", "whole"] (defScope s__law_made) := ⟨rfl, rfl, rfl, by decide +kernel, rfl, by decide +kernel, by decide +kernel⟩
abbrev s__law_by : Stmt := topS 34
theorem sc__law_by : FnScope ["one", "other"] ["one", "other"] (defScope s__law_by) := ⟨rfl, rfl, rfl, by decide +kernel, rfl, by decide +kernel, by decide +kernel⟩
abbrev s__law_and : Stmt := topS 35
theorem sc__law_and : FnScope ["one", "other"] ["one", "other"] (defScope s__law_and) := ⟨rfl, rfl, rfl, by decide +kernel, rfl, by decide +kernel, by decide +kernel⟩
abbrev s__law_away : Stmt := topS 36
theorem sc__law_away : FnScope ["one", "other"] ["one", "other"] (defScope s__law_away) := ⟨rfl, rfl, rfl, by decide +kernel, rfl, by decide +kernel, by decide +kernel⟩
abbrev s__law_rest : Stmt := topS 37
theorem sc__law_rest : FnScope ["value", "size", "turns"] ["value", "size"] (defScope s__law_rest) := ⟨rfl, rfl, rfl, by decide +kernel, rfl, by decide +kernel, by decide +kernel⟩
abbrev s__law_shown : Stmt := topS 38
theorem sc__law_shown : FnScope ["clock", "time"] ["clock", "time"] (defScope s__law_shown) := ⟨rfl, rfl, rfl, by decide +kernel, rfl, by decide +kernel, by decide +kernel⟩
abbrev s__law_again : Stmt := topS 39
theorem sc__law_again : FnScope ["one", "other", "time", "apart", "best", "gone", "near", "rounds", "when"] ["one", "other", "time"] (defScope s__law_again) := ⟨rfl, rfl, rfl, by decide +kernel, rfl, by decide +kernel, by decide +kernel⟩
abbrev s__law_asked : Stmt := topS 40
theorem sc__law_asked : FnScope ["what", "clock", "other", "time", "error"] ["what", "clock", "other", "time"] (defScope s__law_asked) := ⟨rfl, rfl, rfl, by decide +kernel, rfl, by decide +kernel, by decide +kernel⟩
abbrev s_law : Stmt := topS 41
theorem sc_law : FnScope ["script", "draws", "wide", "wrong", "turn", "one", "other", "whole", "time", "found", "k", "later", "what", "value"] ["script"] (defScope s_law) := ⟨rfl, rfl, rfl, by decide +kernel, rfl, by decide +kernel, by decide +kernel⟩
structure Ads where
  a_is_number : Addr
  d_is_number : FuncData
  a_lowest : Addr
  d_lowest : FuncData
  a_plus : Addr
  d_plus : FuncData
  a_minus : Addr
  d_minus : FuncData
  a_times : Addr
  d_times : FuncData
  a_is_dial_clock : Addr
  d_is_dial_clock : FuncData
  a_check_time : Addr
  d_check_time : FuncData
  a_rest_by_dial : Addr
  d_rest_by_dial : FuncData
  a_shown_at : Addr
  d_shown_at : FuncData
  a_same_again : Addr
  d_same_again : FuncData
  a_right_again : Addr
  d_right_again : FuncData
  a__law_open : Addr
  d__law_open : FuncData
  a__law_mixed : Addr
  d__law_mixed : FuncData
  a__law_draw : Addr
  d__law_draw : FuncData
  a__law_told : Addr
  d__law_told : FuncData
  a__law_greatest : Addr
  d__law_greatest : FuncData
  a__law_lowest : Addr
  d__law_lowest : FuncData
  a__law_made : Addr
  d__law_made : FuncData
  a__law_by : Addr
  d__law_by : FuncData
  a__law_and : Addr
  d__law_and : FuncData
  a__law_away : Addr
  d__law_away : FuncData
  a__law_rest : Addr
  d__law_rest : FuncData
  a__law_shown : Addr
  d__law_shown : FuncData
  a__law_again : Addr
  d__law_again : FuncData
  a__law_asked : Addr
  d__law_asked : FuncData
  a_law : Addr
  d_law : FuncData
  x_OutOfRange : Addr
  x_Malformed : Addr
  x_NotThere : Addr
  x_Refused : Addr
  x_TooMuch : Addr
  x_SkyError : Addr
structure Txt (K : PySem.W.Frag) (mg : Str → Option Value) (A : Ads) : Prop where
  f_is_number : Fun K "is_number" "is_number" s_is_number A.a_is_number A.d_is_number
  m_is_number : mg "is_number" = some (.ref A.a_is_number)
  b_is_number : Binds K A.d_is_number ["value", "least", "most"] []
  f_lowest : Fun K "lowest" "lowest" s_lowest A.a_lowest A.d_lowest
  m_lowest : mg "lowest" = some (.ref A.a_lowest)
  b_lowest : Binds K A.d_lowest ["part", "whole"] []
  f_plus : Fun K "plus" "plus" s_plus A.a_plus A.d_plus
  m_plus : mg "plus" = some (.ref A.a_plus)
  b_plus : Binds K A.d_plus ["one", "other"] []
  f_minus : Fun K "minus" "minus" s_minus A.a_minus A.d_minus
  m_minus : mg "minus" = some (.ref A.a_minus)
  b_minus : Binds K A.d_minus ["one", "other"] []
  f_times : Fun K "times" "times" s_times A.a_times A.d_times
  m_times : mg "times" = some (.ref A.a_times)
  b_times : Binds K A.d_times ["one", "other"] []
  f_is_dial_clock : Fun K "is_dial_clock" "is_dial_clock" s_is_dial_clock A.a_is_dial_clock A.d_is_dial_clock
  m_is_dial_clock : mg "is_dial_clock" = some (.ref A.a_is_dial_clock)
  b_is_dial_clock : Binds K A.d_is_dial_clock ["value"] []
  f_check_time : Fun K "check_time" "check_time" s_check_time A.a_check_time A.d_check_time
  m_check_time : mg "check_time" = some (.ref A.a_check_time)
  b_check_time : Binds K A.d_check_time ["time"] []
  f_rest_by_dial : Fun K "rest_by_dial" "rest_by_dial" s_rest_by_dial A.a_rest_by_dial A.d_rest_by_dial
  m_rest_by_dial : mg "rest_by_dial" = some (.ref A.a_rest_by_dial)
  b_rest_by_dial : Binds K A.d_rest_by_dial ["value"] []
  f_shown_at : Fun K "shown_at" "shown_at" s_shown_at A.a_shown_at A.d_shown_at
  m_shown_at : mg "shown_at" = some (.ref A.a_shown_at)
  b_shown_at : Binds K A.d_shown_at ["clock", "time"] []
  f_same_again : Fun K "same_again" "same_again" s_same_again A.a_same_again A.d_same_again
  m_same_again : mg "same_again" = some (.ref A.a_same_again)
  b_same_again : Binds K A.d_same_again ["one", "other", "time"] []
  f_right_again : Fun K "right_again" "right_again" s_right_again A.a_right_again A.d_right_again
  m_right_again : mg "right_again" = some (.ref A.a_right_again)
  b_right_again : Binds K A.d_right_again ["clock", "time"] []
  f__law_open : Fun K "_law_open" "_law_open" s__law_open A.a__law_open A.d__law_open
  m__law_open : mg "_law_open" = some (.ref A.a__law_open)
  b__law_open : Binds K A.d__law_open ["script"] []
  f__law_mixed : Fun K "_law_mixed" "_law_mixed" s__law_mixed A.a__law_mixed A.d__law_mixed
  m__law_mixed : mg "_law_mixed" = some (.ref A.a__law_mixed)
  b__law_mixed : Binds K A.d__law_mixed ["cell", "turn"] []
  f__law_draw : Fun K "_law_draw" "_law_draw" s__law_draw A.a__law_draw A.d__law_draw
  m__law_draw : mg "_law_draw" = some (.ref A.a__law_draw)
  b__law_draw : Binds K A.d__law_draw ["draws", "size"] []
  f__law_told : Fun K "_law_told" "_law_told" s__law_told A.a__law_told A.d__law_told
  m__law_told : mg "_law_told" = some (.ref A.a__law_told)
  b__law_told : Binds K A.d__law_told ["error"] []
  f__law_greatest : Fun K "_law_greatest" "_law_greatest" s__law_greatest A.a__law_greatest A.d__law_greatest
  m__law_greatest : mg "_law_greatest" = some (.ref A.a__law_greatest)
  b__law_greatest : Binds K A.d__law_greatest ["one", "other"] []
  f__law_lowest : Fun K "_law_lowest" "_law_lowest" s__law_lowest A.a__law_lowest A.d__law_lowest
  m__law_lowest : mg "_law_lowest" = some (.ref A.a__law_lowest)
  b__law_lowest : Binds K A.d__law_lowest ["part", "whole"] []
  f__law_made : Fun K "_law_made" "_law_made" s__law_made A.a__law_made A.d__law_made
  m__law_made : mg "_law_made" = some (.ref A.a__law_made)
  b__law_made : Binds K A.d__law_made ["part", "whole"] []
  f__law_by : Fun K "_law_by" "_law_by" s__law_by A.a__law_by A.d__law_by
  m__law_by : mg "_law_by" = some (.ref A.a__law_by)
  b__law_by : Binds K A.d__law_by ["one", "other"] []
  f__law_and : Fun K "_law_and" "_law_and" s__law_and A.a__law_and A.d__law_and
  m__law_and : mg "_law_and" = some (.ref A.a__law_and)
  b__law_and : Binds K A.d__law_and ["one", "other"] []
  f__law_away : Fun K "_law_away" "_law_away" s__law_away A.a__law_away A.d__law_away
  m__law_away : mg "_law_away" = some (.ref A.a__law_away)
  b__law_away : Binds K A.d__law_away ["one", "other"] []
  f__law_rest : Fun K "_law_rest" "_law_rest" s__law_rest A.a__law_rest A.d__law_rest
  m__law_rest : mg "_law_rest" = some (.ref A.a__law_rest)
  b__law_rest : Binds K A.d__law_rest ["value", "size"] []
  f__law_shown : Fun K "_law_shown" "_law_shown" s__law_shown A.a__law_shown A.d__law_shown
  m__law_shown : mg "_law_shown" = some (.ref A.a__law_shown)
  b__law_shown : Binds K A.d__law_shown ["clock", "time"] []
  f__law_again : Fun K "_law_again" "_law_again" s__law_again A.a__law_again A.d__law_again
  m__law_again : mg "_law_again" = some (.ref A.a__law_again)
  b__law_again : Binds K A.d__law_again ["one", "other", "time"] []
  f__law_asked : Fun K "_law_asked" "_law_asked" s__law_asked A.a__law_asked A.d__law_asked
  m__law_asked : mg "_law_asked" = some (.ref A.a__law_asked)
  b__law_asked : Binds K A.d__law_asked ["what", "clock", "other", "time"] []
  f_law : Fun K "law" "law" s_law A.a_law A.d_law
  m_law : mg "law" = some (.ref A.a_law)
  b_law : Binds K A.d_law ["script"] []
  n_abs : mg "abs" = none
  n_bool : mg "bool" = none
  n_int : mg "int" = none
  n_isinstance : mg "isinstance" = none
  n_len : mg "len" = none
  n_list : mg "list" = none
  n_max : mg "max" = none
  n_range : mg "range" = none
  n_tuple : mg "tuple" = none
  i_gcd : mg "gcd" = some (.builtin "math.gcd")
  g_MOST_GAIN : GC K mg "MOST_GAIN" (.int 60)
  g_DIAL : GC K mg "DIAL" (.int 720)
  g_DAY : GC K mg "DAY" (.int 1440)
  g_RIGHT : GC K mg "RIGHT" (.tuple [(.int 0), (.int 0)])
  x_OutOfRange : ExcOk K mg "OutOfRange" A.x_OutOfRange
  y_OutOfRange : mg "OutOfRange" = some (.ref A.x_OutOfRange)
  y_Malformed : mg "Malformed" = some (.ref A.x_Malformed)
  y_NotThere : mg "NotThere" = some (.ref A.x_NotThere)
  y_Refused : mg "Refused" = some (.ref A.x_Refused)
  y_TooMuch : mg "TooMuch" = some (.ref A.x_TooMuch)
  y_SkyError : mg "SkyError" = some (.ref A.x_SkyError)
  e_OutOfRange_SkyError : PySem.W.exmOne K (.ref A.x_OutOfRange) (.ref A.x_SkyError) = some true
  t_OutOfRange_OutOfRange : PySem.W.kitOne K (.ref A.x_OutOfRange) (.ref A.x_OutOfRange) = some true
  t_OutOfRange_Malformed : PySem.W.kitOne K (.ref A.x_OutOfRange) (.ref A.x_Malformed) = some false
  t_OutOfRange_NotThere : PySem.W.kitOne K (.ref A.x_OutOfRange) (.ref A.x_NotThere) = some false
  t_OutOfRange_Refused : PySem.W.kitOne K (.ref A.x_OutOfRange) (.ref A.x_Refused) = some false
  t_OutOfRange_TooMuch : PySem.W.kitOne K (.ref A.x_OutOfRange) (.ref A.x_TooMuch) = some false
  t_OutOfRange_SkyError : PySem.W.kitOne K (.ref A.x_OutOfRange) (.ref A.x_SkyError) = some true
structure Tbs (mg : Str → Option Value) (base : Heap) (A : Ads) : Prop where
theorem bt_isinstance : bootBuiltins "isinstance" = some (.builtin "isinstance") := by decide +kernel
section
variable {P : Program} {w : World} {K : PySem.W.Frag} {mg : Str → Option Value} {base : Heap} {A : Ads}
abbrev LL (A : Ads) : Lw := lwB []
/-- draws of the second kind: two numbers and a row of numbers -/
def sp__law_open : FL.Fn := fun cs q _ => match cs with
  | [.fz (.list ds)] => ∃ ns : List Int, ds = ns.map .int ∧ ns.length ≤ 63 ∧ ∀ es, goodB es → q es
  | _ => False
def absI (n : Int) : Int := if n < 0 then -n else n
def absD : D → D
  | .int n => .int (absI n)
  | d => d
theorem ok__law_open (T : Txt K mg A) (B : Tbs mg base A) : FnOk P w K mg base (L2N.CX P w) 1 A.a__law_open A.d__law_open ["script"] (SpfN K (LL A) sp__law_open) := by
  refine fn_flatN T.f__law_open sc__law_open (by intro cs q r h; unfold sp__law_open at h; first | (obtain ⟨_, rfl, _⟩ := h; rfl) | (obtain ⟨_, _, rfl, _⟩ := h; rfl) | (obtain ⟨_, _, _, rfl, _⟩ := h; rfl) | (obtain ⟨_, _, _, _, rfl, _⟩ := h; rfl) | (obtain ⟨_, _, _, _, _, rfl, _⟩ := h; rfl) | (obtain ⟨_, _, _, _, _, _, rfl, _⟩ := h; rfl) | (obtain ⟨_, _, _, _, _, _, _, rfl, _⟩ := h; rfl) | (obtain ⟨_, _, _, _, _, _, _, _, rfl, _⟩ := h; rfl) | (obtain ⟨_, _, _, _, _, _, _, _, _, rfl, _⟩ := h; rfl) | (obtain ⟨_, _, _, _, _, _, _, _, _, _, rfl, _⟩ := h; rfl) | (obtain ⟨_, _, _, _, _, _, _, _, _, _, _, rfl, _⟩ := h; rfl) | (obtain ⟨_, _, _, _, _, _, _, _, _, _, _, _, rfl, _⟩ := h; rfl) | (split at h <;> first | rfl | exact h.elim)) (fun cdv hcd A' outer s H E hr tk po => ?_)
  have nd := sc__law_open.nd
  refine ⟨_, _, (fss_cons (fs_setLc (own := [("cell", 2)]) (i := 1) rfl nd (fi_seq (fe_sl (fb_var 0) fo_none (fo_some fe_int))) (blkOk_by (by kernel_rfl)) (fun s H C cl fp => (by apply FGc.cast; (case h => exact (fc_name (i := 2) nd (by decide))); (case q => (try dsimp only [FLG.gbx, Cx.blk, FLH.blkH]) <;> exact rfl))) (fun s H C cl fp => (by apply FTs.cast; (case h => exact fts_nil); (case q => (try dsimp only [FLG.gbx, Cx.blk, FLH.blkH]) <;> exact rfl))) (fun s H C cl fp => (by apply FE.cast; (case h => exact (fe_bi cal_abs T.n_abs (by decide +kernel) (fl_cons (fe_ty cal_int1 T.n_int (by decide +kernel) (fl_cons (fe_var 2) fl_nil)) fl_nil))); (case q => (try dsimp only [FLG.gbx, Cx.blk, FLH.blkH]) <;> exact rfl))))
 (fss_one (fs_retO (fn_lst (fl_cons fe_int (fl_cons fe_int (fl_cons (fe_add (fe_var 1) (fe_n (fn_lst (fl_cons fe_int fl_nil)))) fl_nil))))))), ?_⟩
  clear hr tk po nd
  clear hcd
  intro cs q r h
  unfold sp__law_open at h
  split at h
  case h_2 => exact h.elim
  obtain ⟨ns, rfl, h63, h⟩ := h
  walk_at "wp"
  have e0 : cutL (List.map PyData.int ns) none (some 63) = List.map PyData.int (ns.take 63) := by
    rw [List.map_take]
    exact cut_take _ 63
  have l1 : (ns.take 63).length ≤ 63 := by rw [List.length_take]; omega
  rw [e0]
  refine lc_map absD (by rw [List.length_map]; exact Nat.le_trans l1 (by decide)) (fun d hd acc J hJ => ?_) ?_
  · obtain ⟨n, hn, rfl⟩ := List.mem_map.mp hd
    walk_at "wp"
    exact hJ
  · have e1 : List.map absD (List.map PyData.int (ns.take 63)) ++ [PyData.int 0] = ((ns.take 63).map absI ++ [0]).map PyData.int := by
      rw [List.map_append, List.map_map, List.map_map]
      rfl
    refine ⟨by decide, by rw [List.length_map, List.length_map]; exact Nat.le_trans (show (ns.take 63).length + 1 ≤ 64 by omega) (by decide), by decide, ?_⟩
    rw [e1]
    refine h _ ⟨0, 0, _, rfl, by decide, by decide, by simp, by rw [List.length_append, List.length_map, List.length_singleton]; omega, fun c hc => ?_⟩
    rcases List.mem_append.mp hc with hc | hc
    · obtain ⟨n, _, rfl⟩ := List.mem_map.mp hc
      unfold absI
      split <;> omega
    · obtain rfl := List.mem_singleton.mp hc
      decide
def sp__law_mixed : Fs := fun cs q _ => match cs with
  | [.fz (.int c), .fz (.int t)] => 0 ≤ t ∧ ∀ v : Int, 0 ≤ v → q (.int v)
  | _ => False
theorem ok__law_mixed (T : Txt K mg A) (B : Tbs mg base A) : FnOk P w K mg base (L2N.CX P w) 1 A.a__law_mixed A.d__law_mixed ["cell", "turn"] (Spf K (LL A) sp__law_mixed) := by
  refine fn_flat T.f__law_mixed sc__law_mixed (by intro cs q r h; unfold sp__law_mixed at h; first | (obtain ⟨_, rfl, _⟩ := h; rfl) | (obtain ⟨_, _, rfl, _⟩ := h; rfl) | (obtain ⟨_, _, _, rfl, _⟩ := h; rfl) | (obtain ⟨_, _, _, _, rfl, _⟩ := h; rfl) | (obtain ⟨_, _, _, _, _, rfl, _⟩ := h; rfl) | (obtain ⟨_, _, _, _, _, _, rfl, _⟩ := h; rfl) | (obtain ⟨_, _, _, _, _, _, _, rfl, _⟩ := h; rfl) | (obtain ⟨_, _, _, _, _, _, _, _, rfl, _⟩ := h; rfl) | (obtain ⟨_, _, _, _, _, _, _, _, _, rfl, _⟩ := h; rfl) | (obtain ⟨_, _, _, _, _, _, _, _, _, _, rfl, _⟩ := h; rfl) | (obtain ⟨_, _, _, _, _, _, _, _, _, _, _, rfl, _⟩ := h; rfl) | (obtain ⟨_, _, _, _, _, _, _, _, _, _, _, _, rfl, _⟩ := h; rfl) | (split at h <;> first | rfl | exact h.elim)) (fun cdv hcd A' outer s H E hr tk po => ?_)
  have nd := sc__law_mixed.nd
  refine ⟨_, _, (fss_cons (fs_set (i := 2) nd (fe_mod (fe_add (fe_add (fe_mul (fe_mod (fe_var 0) (fe_sub (fe_pow fe_int fe_int) fe_int)) fe_int) (fe_mul (fe_var 1) fe_int)) fe_int) (fe_pow fe_int fe_int)))
 (fss_cons (fs_set (i := 2) nd (fe_mod (fe_mul (fe_xor (fe_var 2) (fe_shr (fe_var 2) fe_int)) fe_int) (fe_pow fe_int fe_int)))
 (fss_one (fs_ret (fe_mod (fe_mul (fe_xor (fe_var 2) (fe_shr (fe_var 2) fe_int)) fe_int) (fe_pow fe_int fe_int)))))), ?_⟩
  clear hr tk po nd
  clear hcd
  intro cs q r h
  unfold sp__law_mixed at h
  split at h
  case h_2 => exact h.elim
  walk_at "wp"
  repeat first
    | refine ⟨by decide, ?_⟩
    | refine ⟨mul_r (by decide) (by decide), ?_⟩
    | refine ⟨⟨by decide, by decide, by decide⟩, ?_⟩
  refine h.2 _ (Int.emod_nonneg _ ?_)
  decide
def sp__law_draw : Fs := fun cs q _ => match cs with
  | [.dr, .fz (.int n)] => (0 < n ∧ DivOk n) ∧ ∀ v : Int, 0 ≤ v → v < n → q (.int v)
  | _ => False
local macro_rules | `(tactic| walk_at "wp") => `(tactic| try dsimp only [u_seq, u_next, u_drop, u_ret, u_retO, u_ifS, u_asg, u_setO, u_par, u_par3, wDead, wDeadE, wIdxC, dEqS, dNeS, wRaise, wTry, wAPx, wIsX, wCallT, wListI, sufS, u_parO, u_par3O, u_parOc, u_aug, u_for, u_app, u_fix, u_gname, l_map1, l_map0, b_nt, b_nf, c_t, c_f, wVar, wVarB, wC, wOp, dI, dI0, dAdd, wNeg, wCmpV, wCmpT, dEq, dNe, dO, isNoneD, dIsN, dNotN, wAndT, wOrT, wNotT, truOk, truD, wTruT, wNotV, wAndV, wOrV, wIf, wChain, wBoolV, wIx, wNil, wCons, wTup, wLst, wN, wANil, wACons, wADr, wCall, wCallN, wgNil, wgCons, wgTup, wgLst, wSeqI, seqD, wRng1, wRng2, wRng3, wCal, dAbs, dMax2, dMin2, dInt1, wCalB, dLen, isIntD, isBoolD, isStrD, isTupD, isLstD, wIsi, wLRev, wListA, dTupA, startS, wO0, wO1, dSl, wSl, wSlN, wRepN, wRepT, dIn, dGcd, dIntsL, wStar, wSeti, wUnDr, wSetDr, spDraw, dBest, wSetL, wLc, wAll, wAny, wYes, stpAll, stpAny, u_wipe0, u_wipe1, u_lk0, u_lk1, lkC, spTake, List.getElem?_cons_zero, List.getElem?_cons_succ, List.getElem?_nil, List.set_cons_zero, List.set_cons_succ, List.length_cons, List.length_nil, List.replicate_succ, List.replicate_zero, List.cons_append, List.nil_append, Nat.reduceAdd, Nat.reduceSub, sp__law_mixed])
theorem ok__law_draw (T : Txt K mg A) (B : Tbs mg base A) : FnOk P w K mg base (L2N.CX P w) 2 A.a__law_draw A.d__law_draw ["draws", "size"] (Spf K (LL A) sp__law_draw) := by
  refine fn_flat T.f__law_draw sc__law_draw (by intro cs q r h; unfold sp__law_draw at h; first | (obtain ⟨_, rfl, _⟩ := h; rfl) | (obtain ⟨_, _, rfl, _⟩ := h; rfl) | (obtain ⟨_, _, _, rfl, _⟩ := h; rfl) | (obtain ⟨_, _, _, _, rfl, _⟩ := h; rfl) | (obtain ⟨_, _, _, _, _, rfl, _⟩ := h; rfl) | (obtain ⟨_, _, _, _, _, _, rfl, _⟩ := h; rfl) | (obtain ⟨_, _, _, _, _, _, _, rfl, _⟩ := h; rfl) | (obtain ⟨_, _, _, _, _, _, _, _, rfl, _⟩ := h; rfl) | (obtain ⟨_, _, _, _, _, _, _, _, _, rfl, _⟩ := h; rfl) | (obtain ⟨_, _, _, _, _, _, _, _, _, _, rfl, _⟩ := h; rfl) | (obtain ⟨_, _, _, _, _, _, _, _, _, _, _, rfl, _⟩ := h; rfl) | (obtain ⟨_, _, _, _, _, _, _, _, _, _, _, _, rfl, _⟩ := h; rfl) | (split at h <;> first | rfl | exact h.elim)) (fun cdv hcd A' outer s H E hr tk po => ?_)
  have nd := sc__law_draw.nd
  refine ⟨_, _, (fss_cons (fs_unDr 0 rfl (fgs_cons (fg_name (i := 2) nd) (fgs_cons (fg_name (i := 3) nd) (fgs_cons (fg_name (i := 4) nd) fgs_nil))))
 (fss_cons (fs_if (ft_cmp cmd_lt (fb_var 3) (fb_var 1))
  (fss_cons (fs_set (i := 5) nd (fe_ix (fb_var 4) (fe_mod (fe_var 2) (fe_bi1 cal_len T.n_len PySem.boot_len (fb_var 4)))))
 (fss_cons (fs_set (i := 3) nd (fe_if (ft_w (fw_and (ft_cmp cmd_lt (fb_var 2) (fb_fe (fe_bi1 cal_len T.n_len PySem.boot_len (fb_var 4)))) (fw_and1 (ft_cmp cmd_ge (fb_var 5) (fb_fe (fe_pow fe_int fe_int)))))) (fe_var 5) (fe_call (ok__law_mixed T B) (hr.mono (by decide)) tk rfl T.m__law_mixed T.f__law_mixed.kp T.b__law_mixed (fa_cons (fe_var 5) (fa_cons (fe_var 2) fa_nil)))))
 (fss_one (fs_set (i := 2) nd (fe_add (fe_var 2) fe_int)))))
  fss_nil)
 (fss_cons (fs_setDr 0 0 (fe_var 2))
 (fss_cons (fs_setDr 0 1 (fe_div (fe_var 3) (fe_var 1)))
 (fss_one (fs_ret (fe_mod (fe_var 3) (fe_var 1)))))))), ?_⟩
  clear hr tk po nd
  clear hcd
  intro cs q r h
  unfold sp__law_draw at h
  split at h
  case h_2 => exact h.elim
  rename_i n
  obtain ⟨⟨h0, hd⟩, h⟩ := h
  walk_at "wp"
  rintro ds ⟨t, l, cs, rfl, t0, l0, hne, hl, hc⟩
  refine ⟨rfl, ?_⟩
  have lc : 0 < cs.length := List.length_pos_iff.mpr hne
  have s0 : ∀ t' : Int, 0 ≤ t' → ∀ ds, goodB ds → 0 < ds.length ∧ goodB (ds.set 0 (.int t')) := by
    rintro t' h' _ ⟨t, l, cs, rfl, t0, l0, hne, hl, hc⟩
    exact ⟨by simp, t', l, cs, rfl, h', l0, hne, hl, hc⟩
  have s1 : ∀ l' : Int, 0 ≤ l' → ∀ ds, goodB ds → 1 < ds.length ∧ goodB (ds.set 1 (.int l')) := by
    rintro l' h' _ ⟨t, l, cs, rfl, t0, l0, hne, hl, hc⟩
    exact ⟨by simp, t, l', cs, rfl, t0, h', hne, hl, hc⟩
  have fin : ∀ l : Int, 0 ≤ l → (0 < n ∧ DivOk n) ∧ (∀ ds, goodB ds → 1 < ds.length ∧ goodB (ds.set 1 (.int (l / n)))) ∧ 0 < n ∧ q (.int (l % n)) := fun l l0 => ⟨⟨h0, hd⟩, s1 _ (Int.ediv_nonneg l0 (by omega)), h0, h _ (Int.emod_nonneg _ (by omega)) (Int.emod_lt_of_pos _ h0)⟩
  walk_at "wp"
  refine ⟨rfl, FL.cond_of (fun _ => ?_) (fun _ => ⟨s0 t t0, fin l l0⟩)⟩
  rw [List.length_map]
  refine ⟨by omega, ?_⟩
  have p0 := Int.emod_nonneg t (show (cs.length : Int) ≠ 0 by omega)
  have p1 := Int.emod_lt_of_pos t (show (0 : Int) < (cs.length : Int) by omega)
  obtain ⟨k, hk⟩ := Int.eq_ofNat_of_zero_le p0
  rw [hk] at p1 ⊢
  have hk2 : k < cs.length := by omega
  refine ix_nat (d := .int cs[k]) (by rw [List.getElem?_map, List.getElem?_eq_getElem hk2]; rfl) ?_
  have c0 := hc _ (List.getElem_mem hk2)
  walk_at "wp"
  exact FL.cond_of (fun _ => ⟨⟨by decide, by decide, by decide⟩, FL.cond_of (fun _ => ⟨s0 _ (by omega), fin _ c0⟩) (fun _ => ⟨t0, fun v v0 => ⟨s0 _ (by omega), fin v v0⟩⟩)⟩) (fun _ => ⟨t0, fun v v0 => ⟨s0 _ (by omega), fin v v0⟩⟩)
/-- what an error is called -/
def sp__law_told (nm : Str) (a : Addr) : Fs := fun cs q _ => cs = [.px a] ∧ q (.str nm)
def toldN : D → Option D
  | .tuple [n, .bool true] => some n
  | _ => none
theorem ok__law_told_OutOfRange (T : Txt K mg A) (B : Tbs mg base A) : FnT P w K mg base (LL A) 1 A.a__law_told A.d__law_told ["error"] A.x_OutOfRange (sp__law_told "OutOfRange") := by
  refine fn_flatT T.f__law_told sc__law_told (fun cdv hcd A' outer s H p hot1 hz hfs => ?_)
  have nd := sc__law_told.nd
  have hpn : p ∈ [p] := List.mem_cons_self
  refine ⟨_, _, (fss_cons (fs_set (i := 1) nd (fe_n (fn_lst (fl_cons (fe_tup (fl_cons fe_str (fl_cons (fe_isx 0 (D := A.x_OutOfRange) hpn hz hfs T.x_OutOfRange.x T.y_OutOfRange T.t_OutOfRange_OutOfRange T.n_isinstance bt_isinstance) fl_nil))) (fl_cons (fe_tup (fl_cons fe_str (fl_cons (fe_isx 0 (D := A.x_OutOfRange) hpn hz hfs T.x_OutOfRange.x T.y_Malformed T.t_OutOfRange_Malformed T.n_isinstance bt_isinstance) fl_nil))) (fl_cons (fe_tup (fl_cons fe_str (fl_cons (fe_isx 0 (D := A.x_OutOfRange) hpn hz hfs T.x_OutOfRange.x T.y_NotThere T.t_OutOfRange_NotThere T.n_isinstance bt_isinstance) fl_nil))) (fl_cons (fe_tup (fl_cons fe_str (fl_cons (fe_isx 0 (D := A.x_OutOfRange) hpn hz hfs T.x_OutOfRange.x T.y_Refused T.t_OutOfRange_Refused T.n_isinstance bt_isinstance) fl_nil))) (fl_cons (fe_tup (fl_cons fe_str (fl_cons (fe_isx 0 (D := A.x_OutOfRange) hpn hz hfs T.x_OutOfRange.x T.y_TooMuch T.t_OutOfRange_TooMuch T.n_isinstance bt_isinstance) fl_nil))) fl_nil))))))))
 (fss_cons (fs_setLcH (i := 2) (q := p) (own := [("name", 3), ("true", 4)]) ⟨hot1.1, hot1.2⟩ hpn nd (fe_var 1) (blkOk_by (by kernel_rfl)) ⟨fun s H C cl fp hot => (by apply FGc.cast; (case h => exact (fc_tupH (n := 2) hot (fcs_cons (fc_name (i := 3) nd (by decide)) (fcs_cons (fc_name (i := 4) nd (by decide)) fcs_nil)))); (case q => (try dsimp only [FLG.gbx, Cx.blk, FLH.blkH]) <;> exact rfl)), fun s H C cl fp hot => (by apply FTs.cast; (case h => exact (fts_one (ft_truth (fb_var 4)))); (case q => (try dsimp only [FLG.gbx, Cx.blk, FLH.blkH]) <;> exact rfl)), fun s H C cl fp hot => (by apply FE.cast; (case h => exact (fe_var 3)); (case q => (try dsimp only [FLG.gbx, Cx.blk, FLH.blkH]) <;> exact rfl))⟩)
 (fss_cons (fs_if (ft_w (fw_or (ft_cmp cmd_neS (fb_fe (fe_bi1 cal_len T.n_len PySem.boot_len (fb_var 2))) (fb_fe fe_int)) (fw_or1 (ft_not (ft_truth (fb_fe (fe_isx 0 (D := A.x_OutOfRange) hpn hz hfs T.x_OutOfRange.x T.y_SkyError T.t_OutOfRange_SkyError T.n_isinstance bt_isinstance)))))))
  (fss_one (fs_ret fe_str))
  fss_nil)
 (fss_one (fs_ret (fe_ix (fb_var 2) fe_int)))))), ?_⟩
  clear hcd nd hpn hot1
  rintro cs q r ⟨rfl, h⟩
  walk_at "wp"
  repeat refine ⟨rfl, by decide, ?_⟩
  refine ⟨by decide, lc_fm toldN (by decide) (fun d hd acc J h1 h2 => ?_) ?_⟩
  · simp only [List.mem_cons, List.not_mem_nil, or_false] at hd
    rcases hd with rfl | rfl | rfl | rfl | rfl <;> walk_at "wp" <;> refine ⟨rfl, rfl, trivial, ?_⟩ <;> first | exact h2 _ rfl | exact h1 rfl
  · exact ⟨rfl, FL.cond_f rfl ⟨rfl, trivial, ⟨_, atI_nat (j := 0) rfl, h⟩⟩⟩
def gcdI (a b : Int) : Int := ((Nat.gcd a.natAbs b.natAbs : Nat) : Int)
theorem gcdI_pos {p w : Int} (h : 0 < w) : 0 < gcdI p w ∧ gcdI p w ≤ w := by
  unfold gcdI
  have h1 : 0 < w.natAbs := by omega
  have h2 := Nat.gcd_pos_of_pos_right p.natAbs h1
  have h3 := Nat.gcd_le_right p.natAbs h1
  omega
theorem gcdI_mod {o t : Int} (h : 0 ≤ o) (ht : 0 < t) : gcdI t (o % t) = gcdI o t := by
  obtain ⟨a, rfl⟩ := Int.eq_ofNat_of_zero_le h
  obtain ⟨b, rfl⟩ := Int.eq_ofNat_of_zero_le (Int.le_of_lt ht)
  show ((Nat.gcd b (a % b) : Nat) : Int) = ((Nat.gcd a b : Nat) : Int)
  rw [Nat.gcd_comm b, ← Nat.gcd_rec, Nat.gcd_comm]
theorem gcdI_zero {o : Int} (h : 0 ≤ o) : gcdI o 0 = o := by
  unfold gcdI
  rw [Int.natAbs_zero, Nat.gcd_zero_right]
  omega
def lowD (p w : Int) : D := .tuple [.int (p / gcdI p w), .int (w / gcdI p w)]
def sp_lowest : Fs := fun cs q _ => match cs with
  | [.fz (.int p), .fz (.int w)] => (0 < w ∧ w < 2 ^ 63) ∧ q (lowD p w)
  | _ => False
theorem ok_lowest (T : Txt K mg A) (B : Tbs mg base A) : FnOk P w K mg base (L2N.CX P w) 1 A.a_lowest A.d_lowest ["part", "whole"] (Spf K (LL A) sp_lowest) := by
  refine fn_flat T.f_lowest sc_lowest (by intro cs q r h; unfold sp_lowest at h; first | (obtain ⟨_, rfl, _⟩ := h; rfl) | (obtain ⟨_, _, rfl, _⟩ := h; rfl) | (obtain ⟨_, _, _, rfl, _⟩ := h; rfl) | (obtain ⟨_, _, _, _, rfl, _⟩ := h; rfl) | (obtain ⟨_, _, _, _, _, rfl, _⟩ := h; rfl) | (obtain ⟨_, _, _, _, _, _, rfl, _⟩ := h; rfl) | (obtain ⟨_, _, _, _, _, _, _, rfl, _⟩ := h; rfl) | (obtain ⟨_, _, _, _, _, _, _, _, rfl, _⟩ := h; rfl) | (obtain ⟨_, _, _, _, _, _, _, _, _, rfl, _⟩ := h; rfl) | (obtain ⟨_, _, _, _, _, _, _, _, _, _, rfl, _⟩ := h; rfl) | (obtain ⟨_, _, _, _, _, _, _, _, _, _, _, rfl, _⟩ := h; rfl) | (obtain ⟨_, _, _, _, _, _, _, _, _, _, _, _, rfl, _⟩ := h; rfl) | (split at h <;> first | rfl | exact h.elim)) (fun cdv hcd A' outer s H E hr tk po => ?_)
  have nd := sc_lowest.nd
  refine ⟨_, _, (fss_cons (fs_set (i := 2) nd (fe_gcd T.i_gcd (fl_cons (fe_var 0) (fl_cons (fe_var 1) fl_nil))))
 (fss_cons (fs_if (ft_cmp cmd_lt (fb_var 1) (fb_fe fe_int))
  (fss_one (fs_set (i := 2) nd (fe_neg (fe_var 2))))
  fss_nil)
 (fss_one (fs_ret (fe_tup (fl_cons (fe_div (fe_var 0) (fe_var 2)) (fl_cons (fe_div (fe_var 1) (fe_var 2)) fl_nil))))))), ?_⟩
  clear hr tk po nd
  clear hcd
  intro cs q r h
  unfold sp_lowest at h
  split at h
  case h_2 => exact h.elim
  rename_i p w
  obtain ⟨⟨h1, h2⟩, h⟩ := h
  walk_at "wp"
  walk_at "sm"
  obtain ⟨g1, g2⟩ := gcdI_pos (p := p) h1
  unfold gcdI at g1 g2
  exact ⟨fun z => absurd z (by omega), fun _ => ⟨⟨g1, div_s (by omega) (by omega)⟩, ⟨g1, div_s (by omega) (by omega)⟩, by decide, h⟩⟩
theorem euc_half {a b : Int} (h : 0 ≤ a) (hb : 0 < b) : (b ≤ a → b * (a % b) * 2 ≤ a * b) ∧ b * (a % b) ≤ a * b := by
  have m0 := Int.emod_nonneg a (show b ≠ 0 by omega)
  have m1 := Int.emod_lt_of_pos a hb
  have e := Int.emod_add_mul_ediv a b
  have q0 := Int.ediv_nonneg h (Int.le_of_lt hb)
  have le : a % b ≤ a := by
    have := Int.mul_nonneg (Int.le_of_lt hb) q0
    omega
  refine ⟨fun hab => ?_, by rw [Int.mul_comm a b]; exact Int.mul_le_mul_of_nonneg_left le (Int.le_of_lt hb)⟩
  have q1 : 1 ≤ a / b := Int.le_ediv_of_mul_le hb (by omega)
  have : b * 1 ≤ b * (a / b) := Int.mul_le_mul_of_nonneg_left q1 (Int.le_of_lt hb)
  have t : 2 * (a % b) ≤ a := by omega
  have := Int.mul_le_mul_of_nonneg_left t (Int.le_of_lt hb)
  rw [Int.mul_comm a b, Int.mul_assoc, Int.mul_comm (a % b)]
  exact this
def sp__law_greatest : Fs := fun cs q _ => match cs with
  | [.fz (.int p), .fz (.int w)] => (0 ≤ p ∧ 0 ≤ w ∧ p < 2 ^ 200 ∧ w < 2 ^ 200) ∧ q (.int (gcdI p w))
  | _ => False
theorem ok__law_greatest (T : Txt K mg A) (B : Tbs mg base A) : FnOk P w K mg base (L2N.CX P w) 1 A.a__law_greatest A.d__law_greatest ["one", "other"] (Spf K (LL A) sp__law_greatest) := by
  refine fn_flat T.f__law_greatest sc__law_greatest (by intro cs q r h; unfold sp__law_greatest at h; first | (obtain ⟨_, rfl, _⟩ := h; rfl) | (obtain ⟨_, _, rfl, _⟩ := h; rfl) | (obtain ⟨_, _, _, rfl, _⟩ := h; rfl) | (obtain ⟨_, _, _, _, rfl, _⟩ := h; rfl) | (obtain ⟨_, _, _, _, _, rfl, _⟩ := h; rfl) | (obtain ⟨_, _, _, _, _, _, rfl, _⟩ := h; rfl) | (obtain ⟨_, _, _, _, _, _, _, rfl, _⟩ := h; rfl) | (obtain ⟨_, _, _, _, _, _, _, _, rfl, _⟩ := h; rfl) | (obtain ⟨_, _, _, _, _, _, _, _, _, rfl, _⟩ := h; rfl) | (obtain ⟨_, _, _, _, _, _, _, _, _, _, rfl, _⟩ := h; rfl) | (obtain ⟨_, _, _, _, _, _, _, _, _, _, _, rfl, _⟩ := h; rfl) | (obtain ⟨_, _, _, _, _, _, _, _, _, _, _, _, rfl, _⟩ := h; rfl) | (split at h <;> first | rfl | exact h.elim)) (fun cdv hcd A' outer s H E hr tk po => ?_)
  have nd := sc__law_greatest.nd
  refine ⟨_, _, (fss_cons (fs_for po rfl (fi_rng1 T.n_range (fl_cons fe_int fl_nil)) (fg_name (i := 2) nd)
  (fss_cons (fs_if (ft_cmp (cmd_eq hr) (fb_var 1) (fb_fe fe_int))
  (fss_one fs_break)
  fss_nil)
 (fss_cons (fs_set (i := 3) nd (fe_mod (fe_var 0) (fe_var 1)))
 (fss_cons (fs_set (i := 0) nd (fe_var 1))
 (fss_one (fs_set (i := 1) nd (fe_var 3)))))))
 (fss_one (fs_ret (fe_var 0)))), ?_⟩
  clear hr tk po nd
  clear hcd
  intro cs q r h
  unfold sp__law_greatest at h
  split at h
  case h_2 => exact h.elim
  rename_i p w
  obtain ⟨⟨h0, h1, h2, h3⟩, h⟩ := h
  walk_at "wp"
  refine ⟨⟨by decide, by decide⟩, fun i s' => ∃ (a b : Int) (x2 x3 : Cel), (0 ≤ a ∧ 0 ≤ b ∧ gcdI a b = gcdI p w ∧ (a * b) * 2 ^ (i - 1) ≤ 2 ^ 400 ∧ (0 < i → b ≤ a)) ∧ s' = [.fz (.int a), .fz (.int b), x2, x3], ⟨p, w, _, _, ⟨h0, h1, rfl, ?_, fun z => absurd z (Nat.lt_irrefl 0)⟩, rfl⟩, ?_, ?_⟩
  · have := Int.mul_le_mul (Int.le_of_lt h2) (Int.le_of_lt h3) h1 (by decide)
    rw [Nat.zero_sub, Int.pow_zero, Int.mul_one]
    exact this
  · rintro i d s' e ⟨a, b, x2, x3, ⟨a0, b0, hg, hb, hi⟩, rfl⟩
    walk_at "wp"
    walk_at "sm"
    refine ⟨fun z => ?_, fun z => ?_⟩
    · subst z
      rw [gcdI_zero a0] at hg
      rw [hg]; exact h
    · have b1 : 0 < b := by omega
      have m0 := Int.emod_nonneg a z
      have m1 := Int.emod_lt_of_pos a b1
      refine ⟨b1, b, a % b, _, _, ⟨b0, m0, by rw [gcdI_mod a0 b1]; exact hg, ?_, fun _ => Int.le_of_lt m1⟩, rfl⟩
      rw [Nat.add_sub_cancel]
      have key := euc_half a0 b1
      cases i with
      | zero =>
        rw [Int.pow_zero, Int.mul_one]
        rw [Nat.zero_sub, Int.pow_zero, Int.mul_one] at hb
        exact Int.le_trans key.2 hb
      | succ i =>
        rw [Nat.add_sub_cancel] at hb
        have k1 := key.1 (hi (Nat.succ_pos i))
        have k2 := Int.mul_le_mul_of_nonneg_right k1 (Int.le_of_lt (Int.pow_pos (m := i) (show (0 : Int) < 2 by decide)))
        rw [Int.pow_succ, Int.mul_comm (2 ^ i : Int), ← Int.mul_assoc]
        exact Int.le_trans k2 hb
  · rintro s' ⟨a, b, x2, x3, ⟨a0, b0, hg, hb, hi⟩, rfl⟩
    rw [rng_len] at hb hi
    have hba := hi (by decide)
    walk_at "wp"
    have bz : b = 0 := by
      refine Classical.byContradiction fun z => ?_
      have ab : 1 * 1 ≤ a * b := Int.mul_le_mul (by omega) (by omega) (by decide) a0
      have k2 := Int.mul_le_mul_of_nonneg_right ab (Int.le_of_lt (Int.pow_pos (m := (Int.toNat 6000) - 1) (show (0 : Int) < 2 by decide)))
      have k3 := Int.le_trans k2 hb
      exact absurd k3 (by decide +kernel)
    subst bz
    rw [gcdI_zero a0] at hg
    rw [hg]
    exact h
theorem low_scale {k a b : Int} (hk : 0 < k) : lowD (k * a) (k * b) = lowD a b := by
  have e : gcdI (k * a) (k * b) = k * gcdI a b := by
    obtain ⟨n, rfl⟩ := Int.eq_ofNat_of_zero_le (Int.le_of_lt hk)
    unfold gcdI
    rw [Int.natAbs_mul, Int.natAbs_mul, Int.natAbs_natCast, Nat.gcd_mul_left, Int.natCast_mul]
  unfold lowD
  rw [e, Int.mul_ediv_mul_of_pos _ _ hk, Int.mul_ediv_mul_of_pos _ _ hk]
/-- equal fractions have one form -/
theorem low_eq {a b c d : Int} (hb : 0 < b) (hd : 0 < d) (h : a * d = c * b) : lowD a b = lowD c d := by
  rw [← low_scale (a := a) (b := b) hd, ← low_scale (a := c) (b := d) hb, Int.mul_comm d a, h, Int.mul_comm c b, Int.mul_comm d b]
theorem low_one {a b : Int} (h : gcdI a b = 1) : lowD a b = .tuple [.int a, .int b] := by
  unfold lowD; rw [h, Int.ediv_one, Int.ediv_one]
/-- what the form is -/
theorem low_is (a : Int) {b : Int} (hb : 0 < b) : ∃ n d : Int, lowD a b = .tuple [.int n, .int d] ∧ 0 < d ∧ d ≤ b ∧ n * b = a * d ∧ gcdI n d = 1 ∧ (0 ≤ a → 0 ≤ n ∧ n ≤ a) ∧ (a < 0 → a ≤ n ∧ n < 0) := by
  obtain ⟨g0, g1⟩ := gcdI_pos (p := a) hb
  have da : gcdI a b ∣ a := by unfold gcdI; exact Int.ofNat_dvd_left.mpr (Nat.gcd_dvd_left _ _)
  have db : gcdI a b ∣ b := by unfold gcdI; exact Int.ofNat_dvd_left.mpr (Nat.gcd_dvd_right _ _)
  obtain ⟨n, hn⟩ := da
  obtain ⟨d, hd⟩ := db
  have en : a / gcdI a b = n := Int.ediv_eq_of_eq_mul_right (by omega) hn
  have ed : b / gcdI a b = d := Int.ediv_eq_of_eq_mul_right (by omega) hd
  have d0 : 0 < d := by rw [← ed]; exact Int.ediv_pos_of_pos_of_dvd hb (by omega) ⟨d, hd⟩
  refine ⟨n, d, by unfold lowD; rw [en, ed], d0, by rw [← ed]; exact Int.ediv_le_self _ (by omega), ?_, ?_, fun h => ?_, fun h => ?_⟩
  · generalize gcdI a b = g at *
    rw [hn, hd]
    grind
  · have e : gcdI (gcdI a b * n) (gcdI a b * d) = gcdI a b * gcdI n d := by
      obtain ⟨m, hm⟩ := Int.eq_ofNat_of_zero_le (Int.le_of_lt g0)
      rw [hm]
      unfold gcdI
      rw [Int.natAbs_mul, Int.natAbs_mul, Int.natAbs_natCast, Nat.gcd_mul_left, Int.natCast_mul]
    rw [← hn, ← hd] at e
    generalize gcdI a b = g at *
    have : g * (gcdI n d - 1) = 0 := by grind
    rcases Int.mul_eq_zero.mp this with z | z <;> omega
  · rw [← en]
    exact ⟨Int.ediv_nonneg h (by omega), Int.ediv_le_self _ h⟩
  · generalize gcdI a b = g at *
    have n0 : n < 0 := by
      refine Int.not_le.mp fun z => ?_
      have := Int.mul_nonneg (Int.le_of_lt g0) z
      omega
    have : g * n ≤ 1 * n := Int.mul_le_mul_of_nonpos_right (by omega) (by omega)
    omega
theorem mul_lt_iff {a b k : Int} (hk : 0 < k) : a * k < b * k ↔ a < b := ⟨fun h => Int.lt_of_mul_lt_mul_right h (Int.le_of_lt hk), fun h => Int.mul_lt_mul_of_pos_right h hk⟩
/-- which fraction is less, by other forms of both -/
theorem cmp_low {a b n d c e m f : Int} (hb : 0 < b) (hd : 0 < d) (he : 0 < e) (hf : 0 < f) (h1 : n * b = a * d) (h2 : m * e = c * f) : (n * f < m * d) = (a * e < c * b) := by
  have x : n * f * (b * e) = a * e * (d * f) := by grind
  have y : m * d * (b * e) = c * b * (d * f) := by grind
  refine propext ?_
  rw [← mul_lt_iff (Int.mul_pos hb he), x, y, mul_lt_iff (Int.mul_pos hd hf)]
theorem floor_is {a b h : Int} (hb : 0 < b) (h1 : h * b ≤ a) (h2 : a < h * b + b) : a / b = h := by
  have x : h ≤ a / b := Int.le_ediv_of_mul_le hb h1
  have y : a / b < h + 1 := Int.ediv_lt_of_lt_mul hb (by rw [Int.add_mul, Int.one_mul]; exact h2)
  omega
theorem floor_eq {a b n d : Int} (hb : 0 < b) (hd : 0 < d) (h : n * b = a * d) : n / d = a / b := by
  rw [← Int.mul_ediv_mul_of_pos n d hb, Int.mul_comm b n, h, Int.mul_comm b d, Int.mul_comm a d, Int.mul_ediv_mul_of_pos _ _ hd]
theorem sh_low {a b : Int} : Sh 1 (lowD a b) := sh_t fun d hd => by
  simp only [List.mem_cons, List.not_mem_nil, or_false] at hd
  rcases hd with rfl | rfl <;> exact sh_i
theorem ev_same {n : Nat} {d : D} (h : Sh n d) : PyData.eqv d d = true := SeqAt.eqv_refl d h.1
theorem ev_t2 {a b c d : D} : PyData.eqv (.tuple [a, b]) (.tuple [c, d]) = (PyData.eqv a c && PyData.eqv b d) := by
  simp [PyData.eqv, PyData.eqvAll]
theorem ev_low {a b c d : Int} (hb : 0 < b) (hd : 0 < d) : PyData.eqv (lowD a b) (lowD c d) = decide (a * d = c * b) := by
  obtain ⟨n, m, e1, k0, k1, k2, -⟩ := low_is a hb
  obtain ⟨s, t, e2, l0, l1, l2, -⟩ := low_is c hd
  by_cases h : a * d = c * b
  · rw [low_eq hb hd h, decide_eq_true h]
    exact ev_same sh_low
  · rw [e1, e2, ev_t2, ev_ii, ev_ii, decide_eq_false h]
    refine Bool.eq_false_iff.mpr fun z => h ?_
    obtain ⟨z1, z2⟩ := Bool.and_eq_true_iff.mp z
    obtain rfl := of_decide_eq_true z1
    obtain rfl := of_decide_eq_true z2
    have : m * (a * d) = m * (c * b) := by grind
    exact Int.eq_of_mul_eq_mul_left (by omega) this
theorem low_zero {w : Int} (h : 0 < w) : lowD 0 w = .tuple [.int 0, .int 1] :=
  (low_eq h (show (0 : Int) < 1 by decide) (by omega)).trans (low_one (by decide))
theorem low_neg {p w n d : Int} (h : 0 < w) (e : lowD (-p) w = .tuple [.int n, .int d]) : lowD p w = .tuple [.int (-n), .int d] := by
  obtain ⟨n', d', e1, h1, h2, h3, h4, _⟩ := low_is (-p) h
  rw [e1] at e
  injection e with e
  injection e with ea eb
  injection eb with eb
  injection ea with ea
  injection eb with eb
  subst ea eb
  have g : gcdI (-n') d' = 1 := by rw [← h4]; unfold gcdI; rw [Int.natAbs_neg]
  rw [← low_one g]
  exact low_eq h h1 (by grind)
def sp__law_lowest : Fs := fun cs q _ => match cs with
  | [.fz (.int p), .fz (.int w)] => (0 ≤ p ∧ 0 < w ∧ p < 2 ^ 200 ∧ w < 2 ^ 200) ∧ q (lowD p w)
  | _ => False
local macro_rules | `(tactic| walk_at "wp") => `(tactic| try dsimp only [u_seq, u_next, u_drop, u_ret, u_retO, u_ifS, u_asg, u_setO, u_par, u_par3, wDead, wDeadE, wIdxC, dEqS, dNeS, wRaise, wTry, wAPx, wIsX, wCallT, wListI, sufS, u_parO, u_par3O, u_parOc, u_aug, u_for, u_app, u_fix, u_gname, l_map1, l_map0, b_nt, b_nf, c_t, c_f, wVar, wVarB, wC, wOp, dI, dI0, dAdd, wNeg, wCmpV, wCmpT, dEq, dNe, dO, isNoneD, dIsN, dNotN, wAndT, wOrT, wNotT, truOk, truD, wTruT, wNotV, wAndV, wOrV, wIf, wChain, wBoolV, wIx, wNil, wCons, wTup, wLst, wN, wANil, wACons, wADr, wCall, wCallN, wgNil, wgCons, wgTup, wgLst, wSeqI, seqD, wRng1, wRng2, wRng3, wCal, dAbs, dMax2, dMin2, dInt1, wCalB, dLen, isIntD, isBoolD, isStrD, isTupD, isLstD, wIsi, wLRev, wListA, dTupA, startS, wO0, wO1, dSl, wSl, wSlN, wRepN, wRepT, dIn, dGcd, dIntsL, wStar, wSeti, wUnDr, wSetDr, spDraw, dBest, wSetL, wLc, wAll, wAny, wYes, stpAll, stpAny, u_wipe0, u_wipe1, u_lk0, u_lk1, lkC, spTake, List.getElem?_cons_zero, List.getElem?_cons_succ, List.getElem?_nil, List.set_cons_zero, List.set_cons_succ, List.length_cons, List.length_nil, List.replicate_succ, List.replicate_zero, List.cons_append, List.nil_append, Nat.reduceAdd, Nat.reduceSub, sp__law_greatest])
theorem ok__law_lowest (T : Txt K mg A) (B : Tbs mg base A) : FnOk P w K mg base (L2N.CX P w) 2 A.a__law_lowest A.d__law_lowest ["part", "whole"] (Spf K (LL A) sp__law_lowest) := by
  refine fn_flat T.f__law_lowest sc__law_lowest (by intro cs q r h; unfold sp__law_lowest at h; first | (obtain ⟨_, rfl, _⟩ := h; rfl) | (obtain ⟨_, _, rfl, _⟩ := h; rfl) | (obtain ⟨_, _, _, rfl, _⟩ := h; rfl) | (obtain ⟨_, _, _, _, rfl, _⟩ := h; rfl) | (obtain ⟨_, _, _, _, _, rfl, _⟩ := h; rfl) | (obtain ⟨_, _, _, _, _, _, rfl, _⟩ := h; rfl) | (obtain ⟨_, _, _, _, _, _, _, rfl, _⟩ := h; rfl) | (obtain ⟨_, _, _, _, _, _, _, _, rfl, _⟩ := h; rfl) | (obtain ⟨_, _, _, _, _, _, _, _, _, rfl, _⟩ := h; rfl) | (obtain ⟨_, _, _, _, _, _, _, _, _, _, rfl, _⟩ := h; rfl) | (obtain ⟨_, _, _, _, _, _, _, _, _, _, _, rfl, _⟩ := h; rfl) | (obtain ⟨_, _, _, _, _, _, _, _, _, _, _, _, rfl, _⟩ := h; rfl) | (split at h <;> first | rfl | exact h.elim)) (fun cdv hcd A' outer s H E hr tk po => ?_)
  have nd := sc__law_lowest.nd
  refine ⟨_, _, (fss_cons (fs_set (i := 2) nd (fe_call (ok__law_greatest T B) (hr.mono (by decide)) tk rfl T.m__law_greatest T.f__law_greatest.kp T.b__law_greatest (fa_cons (fe_bi cal_abs T.n_abs (by decide +kernel) (fl_cons (fe_var 0) fl_nil)) (fa_cons (fe_bi cal_abs T.n_abs (by decide +kernel) (fl_cons (fe_var 1) fl_nil)) fa_nil))))
 (fss_cons (fs_set (i := 2) nd (fe_if (ft_cmp cmd_lt (fb_var 1) (fb_fe fe_int)) (fe_neg (fe_var 2)) (fe_var 2)))
 (fss_one (fs_ret (fe_tup (fl_cons (fe_div (fe_var 0) (fe_var 2)) (fl_cons (fe_div (fe_var 1) (fe_var 2)) fl_nil))))))), ?_⟩
  clear hr tk po nd
  clear hcd
  intro cs q r h
  unfold sp__law_lowest at h
  split at h
  case h_2 => exact h.elim
  rename_i p w
  obtain ⟨⟨h0, h1, h2, h3⟩, h⟩ := h
  obtain ⟨g1, g2⟩ := gcdI_pos (p := p) h1
  walk_at "wp"
  walk_at "sm"
  rw [if_neg (show ¬ p < 0 by omega), if_neg (show ¬ w < 0 by omega)]
  have dv : DivOk (gcdI p w) := div_w (m := 200) (by omega) (by decide)
  exact ⟨⟨h0, by omega, h2, h3⟩, fun z => absurd z (by omega), fun _ => ⟨⟨g1, dv⟩, ⟨g1, dv⟩, by decide, h⟩⟩
def sp__law_made : Fs := fun cs q _ => match cs with
  | [.fz (.int p), .fz (.int w)] => (-(2 ^ 200) < p ∧ 0 < w ∧ p < 2 ^ 200 ∧ w < 2 ^ 200) ∧ q (lowD p w)
  | _ => False
local macro_rules | `(tactic| walk_at "wp") => `(tactic| try dsimp only [u_seq, u_next, u_drop, u_ret, u_retO, u_ifS, u_asg, u_setO, u_par, u_par3, wDead, wDeadE, wIdxC, dEqS, dNeS, wRaise, wTry, wAPx, wIsX, wCallT, wListI, sufS, u_parO, u_par3O, u_parOc, u_aug, u_for, u_app, u_fix, u_gname, l_map1, l_map0, b_nt, b_nf, c_t, c_f, wVar, wVarB, wC, wOp, dI, dI0, dAdd, wNeg, wCmpV, wCmpT, dEq, dNe, dO, isNoneD, dIsN, dNotN, wAndT, wOrT, wNotT, truOk, truD, wTruT, wNotV, wAndV, wOrV, wIf, wChain, wBoolV, wIx, wNil, wCons, wTup, wLst, wN, wANil, wACons, wADr, wCall, wCallN, wgNil, wgCons, wgTup, wgLst, wSeqI, seqD, wRng1, wRng2, wRng3, wCal, dAbs, dMax2, dMin2, dInt1, wCalB, dLen, isIntD, isBoolD, isStrD, isTupD, isLstD, wIsi, wLRev, wListA, dTupA, startS, wO0, wO1, dSl, wSl, wSlN, wRepN, wRepT, dIn, dGcd, dIntsL, wStar, wSeti, wUnDr, wSetDr, spDraw, dBest, wSetL, wLc, wAll, wAny, wYes, stpAll, stpAny, u_wipe0, u_wipe1, u_lk0, u_lk1, lkC, spTake, List.getElem?_cons_zero, List.getElem?_cons_succ, List.getElem?_nil, List.set_cons_zero, List.set_cons_succ, List.length_cons, List.length_nil, List.replicate_succ, List.replicate_zero, List.cons_append, List.nil_append, Nat.reduceAdd, Nat.reduceSub, sp__law_lowest])
theorem ok__law_made (T : Txt K mg A) (B : Tbs mg base A) : FnOk P w K mg base (L2N.CX P w) 3 A.a__law_made A.d__law_made ["part", "whole"] (Spf K (LL A) sp__law_made) := by
  refine fn_flat T.f__law_made sc__law_made (by intro cs q r h; unfold sp__law_made at h; first | (obtain ⟨_, rfl, _⟩ := h; rfl) | (obtain ⟨_, _, rfl, _⟩ := h; rfl) | (obtain ⟨_, _, _, rfl, _⟩ := h; rfl) | (obtain ⟨_, _, _, _, rfl, _⟩ := h; rfl) | (obtain ⟨_, _, _, _, _, rfl, _⟩ := h; rfl) | (obtain ⟨_, _, _, _, _, _, rfl, _⟩ := h; rfl) | (obtain ⟨_, _, _, _, _, _, _, rfl, _⟩ := h; rfl) | (obtain ⟨_, _, _, _, _, _, _, _, rfl, _⟩ := h; rfl) | (obtain ⟨_, _, _, _, _, _, _, _, _, rfl, _⟩ := h; rfl) | (obtain ⟨_, _, _, _, _, _, _, _, _, _, rfl, _⟩ := h; rfl) | (obtain ⟨_, _, _, _, _, _, _, _, _, _, _, rfl, _⟩ := h; rfl) | (obtain ⟨_, _, _, _, _, _, _, _, _, _, _, _, rfl, _⟩ := h; rfl) | (split at h <;> first | rfl | exact h.elim)) (fun cdv hcd A' outer s H E hr tk po => ?_)
  have nd := sc__law_made.nd
  refine ⟨_, _, (fss_cons (fs_if (ft_cmp (cmd_eq hr) (fb_var 0) (fb_fe fe_int))
  (fss_one (fs_ret (fe_tup (fl_cons fe_int (fl_cons fe_int fl_nil)))))
  fss_nil)
 (fss_cons (fs_set (i := 2) nd (fe_call (ok__law_lowest T B) (hr.mono (by decide)) tk rfl T.m__law_lowest T.f__law_lowest.kp T.b__law_lowest (fa_cons (fe_if (ft_cmp cmd_gt (fb_var 0) (fb_fe fe_int)) (fe_var 0) (fe_neg (fe_var 0))) (fa_cons (fe_var 1) fa_nil))))
 (fss_one (fs_ret (fe_tup (fl_cons (fe_if (ft_cmp cmd_gt (fb_var 0) (fb_fe fe_int)) (fe_ix (fb_var 2) fe_int) (fe_neg (fe_ix (fb_var 2) fe_int))) (fl_cons (fe_ix (fb_var 2) fe_int) fl_nil))))))), ?_⟩
  clear hr tk po nd
  clear hcd
  intro cs q r h
  unfold sp__law_made at h
  split at h
  case h_2 => exact h.elim
  rename_i p w
  obtain ⟨⟨h0, h1, h2, h3⟩, h⟩ := h
  walk_at "wp"
  walk_at "sm"
  refine ⟨fun z => ⟨by decide, ?_⟩, fun z => ⟨fun z1 => ⟨⟨by omega, h1, h2, h3⟩, fun _ => ?_, fun z2 => absurd z1 z2⟩, fun z1 => ⟨⟨by omega, h1, by omega, h3⟩, fun z2 => absurd z2 z1, fun _ => ?_⟩⟩⟩
  · subst z
    rw [low_zero h1] at h
    exact h
  · obtain ⟨n, d, e, -⟩ := low_is p h1
    rw [e] at h ⊢
    walk_at "wp"
    walk_at "sm"
    exact ⟨by decide, h⟩
  · obtain ⟨n, d, e, -⟩ := low_is (-p) h1
    rw [low_neg h1 e] at h
    rw [e]
    walk_at "wp"
    walk_at "sm"
    exact ⟨by decide, h⟩
/-- a fraction as data -/
def qD (x : Rat) : D := .tuple [.int x.num, .int (x.den : Int)]
theorem den_pos (x : Rat) : 0 < (x.den : Int) := by have := x.den_nz; omega
theorem low_q {p w : Int} (h : 0 < w) : lowD p w = qD (Rat.divInt p w) := by
  obtain ⟨n, rfl⟩ := Int.eq_ofNat_of_zero_le (Int.le_of_lt h)
  have hn : n ≠ 0 := by omega
  have e : Rat.divInt p (n : Int) = mkRat p n := rfl
  rw [e, mkRat, dif_neg hn, Rat.normalize_eq]
  rfl
theorem q_self (x : Rat) : Rat.divInt x.num (x.den : Int) = x := Rat.num_divInt_den x
theorem q_add (x y : Rat) : x + y = Rat.divInt (x.num * y.den + y.num * x.den) (x.den * y.den) := by
  rw [← Rat.divInt_add_divInt _ _ (by have := den_pos x; omega) (by have := den_pos y; omega), q_self, q_self]
theorem q_sub (x y : Rat) : x - y = Rat.divInt (x.num * y.den - y.num * x.den) (x.den * y.den) := by
  rw [← Rat.divInt_sub_divInt _ _ (by have := den_pos x; omega) (by have := den_pos y; omega), q_self, q_self]
theorem q_mul (x y : Rat) : x * y = Rat.divInt (x.num * y.num) (x.den * y.den) := by
  rw [← Rat.divInt_mul_divInt, q_self, q_self]
theorem low_add {x y : Rat} : lowD (x.num * y.den + y.num * x.den) (x.den * y.den) = qD (x + y) := by
  rw [low_q (Int.mul_pos (den_pos x) (den_pos y)), ← q_add]
theorem low_sub {x y : Rat} : lowD (x.num * y.den - y.num * x.den) (x.den * y.den) = qD (x - y) := by
  rw [low_q (Int.mul_pos (den_pos x) (den_pos y)), ← q_sub]
theorem low_mul {x y : Rat} : lowD (x.num * y.num) (x.den * y.den) = qD (x * y) := by
  rw [low_q (Int.mul_pos (den_pos x) (den_pos y)), ← q_mul]
theorem q_le {p w : Int} (h : 0 < w) : (Rat.divInt p w).num.natAbs ≤ p.natAbs ∧ ((Rat.divInt p w).den : Int) ≤ w := by
  obtain ⟨n, rfl⟩ := Int.eq_ofNat_of_zero_le (Int.le_of_lt h)
  have hn : n ≠ 0 := by omega
  have e : Rat.divInt p (n : Int) = mkRat p n := rfl
  rw [e, mkRat, dif_neg hn, Rat.normalize_eq]
  refine ⟨?_, by have := Nat.div_le_self n (p.natAbs.gcd n); show ((n / p.natAbs.gcd n : Nat) : Int) ≤ _; omega⟩
  show (p / ((p.natAbs.gcd n : Nat) : Int)).natAbs ≤ _
  exact Int.natAbs_ediv_le_natAbs _ _
theorem q_int (n : Int) : PyData.tuple [.int n, .int 1] = qD (n : Rat) := rfl
theorem q_inj {x y : Rat} : qD x = qD y ↔ x = y := ⟨fun h => by
  unfold qD at h
  injection h with h
  injection h with h1 h2
  injection h2 with h2
  injection h1 with h1
  injection h2 with h2
  exact Rat.ext h1 (by omega), fun h => by rw [h]⟩
theorem num_neg {x : Rat} : x.num < 0 ↔ x < 0 := by
  have := @Rat.num_nonneg x
  constructor
  · intro h
    exact Rat.not_le.mp fun z => by have := this.mpr z; omega
  · intro h
    exact Int.not_le.mp fun z => Rat.not_le.mpr h (this.mp z)
/-- p / w as a rational -/
theorem div_mul {p w : Int} (h : 0 < w) : Rat.divInt p w * (w : Rat) = (p : Rat) := by
  have e1 : ((w : Int) : Rat) = Rat.divInt w 1 := (q_self (w : Rat)).symm
  have e2 : ((p : Int) : Rat) = Rat.divInt p 1 := (q_self (p : Rat)).symm
  rw [e1, e2, Rat.divInt_mul_divInt, Rat.divInt_eq_divInt_iff (by omega) (by decide)]
  grind
theorem div_is {p w : Int} (h : 0 < w) {x : Rat} (e : x * (w : Rat) = (p : Rat)) : Rat.divInt p w = x := by
  have h1 := div_mul (p := p) h
  have hw : (w : Rat) ≠ 0 := by
    intro z
    have := Rat.intCast_inj.mp (show ((w : Int) : Rat) = ((0 : Int) : Rat) from z)
    omega
  rw [← e] at h1
  grind
/-- how large -/
def Fq (d : Nat) (x : Rat) : Prop := x.den < 2 ^ d ∧ -(1152921504606846976 : Rat) ≤ x ∧ x ≤ 1152921504606846976
theorem Fq.mono {i j : Nat} {x : Rat} (h : Fq i x) (hij : i ≤ j) : Fq j x := ⟨Nat.lt_of_lt_of_le h.1 (Nat.pow_le_pow_right (by decide) hij), h.2⟩
theorem fq_den {d : Nat} {x : Rat} (h : Fq d x) (hd : d ≤ 61 := by decide) : 0 < (x.den : Int) ∧ (x.den : Int) < 2 ^ 61 := by
  have h1 := (h.mono hd).1
  have : ((x.den : Nat) : Int) < ((2 ^ 61 : Nat) : Int) := by omega
  exact ⟨den_pos x, by rwa [Int.natCast_pow] at this⟩
theorem fq_num {d : Nat} {x : Rat} (h : Fq d x) (hd : d ≤ 61 := by decide) : x.num.natAbs < 2 ^ 122 := by
  have dd := fq_den h hd
  obtain ⟨-, h1, h2⟩ := h
  have e1 : (1152921504606846976 : Rat).num = 1152921504606846976 := rfl
  have e2 : (1152921504606846976 : Rat).den = 1 := rfl
  have e3 : (-(1152921504606846976 : Rat)).num = -1152921504606846976 := rfl
  have e4 : (-(1152921504606846976 : Rat)).den = 1 := rfl
  rw [Rat.le_iff, e3, e4] at h1
  rw [Rat.le_iff, e1, e2] at h2
  omega
theorem fq_num2 {d : Nat} {x : Rat} (h : Fq d x) : x.num.natAbs ≤ 1152921504606846976 * x.den := by
  obtain ⟨-, h1, h2⟩ := h
  have e1 : (1152921504606846976 : Rat).num = 1152921504606846976 := rfl
  have e2 : (1152921504606846976 : Rat).den = 1 := rfl
  have e3 : (-(1152921504606846976 : Rat)).num = -1152921504606846976 := rfl
  have e4 : (-(1152921504606846976 : Rat)).den = 1 := rfl
  rw [Rat.le_iff, e3, e4] at h1
  rw [Rat.le_iff, e1, e2] at h2
  omega
theorem p2_le {i j : Nat} (h : i ≤ j) : (2 : Int) ^ i ≤ 2 ^ j := by
  have := Nat.pow_le_pow_right (show 0 < 2 by decide) h
  have : ((2 ^ i : Nat) : Int) ≤ ((2 ^ j : Nat) : Int) := by omega
  rwa [Int.natCast_pow, Int.natCast_pow] at this
theorem fq_numM {i j : Nat} {x y : Rat} (hx : Fq i x) (hy : Fq j y) (h : i + j ≤ 61) : (x.num * y.num).natAbs < 2 ^ 190 := by
  have a := fq_num2 hx
  have b := fq_num2 hy
  have c := Nat.mul_lt_mul'' hx.1 hy.1
  rw [← Nat.pow_add] at c
  have c2 : (2 : Nat) ^ (i + j) ≤ 2 ^ 61 := Nat.pow_le_pow_right (by decide) h
  rw [Int.natAbs_mul]
  have := Nat.mul_le_mul a b
  have e : 1152921504606846976 * x.den * (1152921504606846976 * y.den) = (1152921504606846976 * 1152921504606846976) * (x.den * y.den) := by grind
  rw [e] at this
  have e2 : (1152921504606846976 * 1152921504606846976) * (x.den * y.den) < (1152921504606846976 * 1152921504606846976) * 2 ^ 61 := Nat.mul_lt_mul_of_pos_left (by omega) (by decide)
  have e3 : (1152921504606846976 * 1152921504606846976) * 2 ^ 61 < 2 ^ 190 := by decide
  omega
theorem den_mul {i j : Nat} {x y : Rat} (hx : x.den < 2 ^ i) (hy : y.den < 2 ^ j) : (x.den : Int) * y.den < 2 ^ (i + j) := by
  have := Nat.mul_lt_mul'' hx hy
  rw [← Nat.pow_add] at this
  have : ((x.den * y.den : Nat) : Int) < ((2 ^ (i + j) : Nat) : Int) := by omega
  rwa [Int.natCast_mul, Int.natCast_pow] at this
theorem den_of {p w : Int} {k : Nat} (h : 0 < w) (h2 : w < 2 ^ k) : (Rat.divInt p w).den < 2 ^ k := by
  have := (q_le (p := p) h).2
  have : ((Rat.divInt p w).den : Int) < ((2 ^ k : Nat) : Int) := by rw [Int.natCast_pow]; exact Int.lt_of_le_of_lt this h2
  omega
theorem den_add {i j : Nat} {x y : Rat} (hx : x.den < 2 ^ i) (hy : y.den < 2 ^ j) : (x + y).den < 2 ^ (i + j) := by
  rw [q_add]; exact den_of (Int.mul_pos (den_pos x) (den_pos y)) (den_mul hx hy)
theorem den_sub {i j : Nat} {x y : Rat} (hx : x.den < 2 ^ i) (hy : y.den < 2 ^ j) : (x - y).den < 2 ^ (i + j) := by
  rw [q_sub]; exact den_of (Int.mul_pos (den_pos x) (den_pos y)) (den_mul hx hy)
theorem den_times {i j : Nat} {x y : Rat} (hx : x.den < 2 ^ i) (hy : y.den < 2 ^ j) : (x * y).den < 2 ^ (i + j) := by
  rw [q_mul]; exact den_of (Int.mul_pos (den_pos x) (den_pos y)) (den_mul hx hy)
theorem den_int {n : Int} : (n : Rat).den < 2 ^ 1 := by show 1 < 2 ^ 1; decide
/-- the rest of x by k -/
def modQ (x : Rat) (k : Int) : Rat := x - ((x.num / (x.den * k) * k : Int) : Rat)
theorem mod_q {x : Rat} {k : Int} (hk : 0 < k) : modQ x k = Rat.divInt (x.num % (x.den * k)) x.den := by
  have hd := den_pos x
  have e := Int.emod_add_mul_ediv x.num (x.den * k)
  unfold modQ
  generalize x.num / (x.den * k) = n at *
  have h1 : ((n * k : Int) : Rat) = Rat.divInt (n * k) 1 := (q_self ((n * k : Int) : Rat)).symm
  rw [h1]
  have hq : x - Rat.divInt (n * k) 1 = Rat.divInt x.num x.den - Rat.divInt (n * k) 1 := by rw [q_self]
  rw [hq, Rat.divInt_sub_divInt _ _ (by omega) (by decide), Rat.divInt_eq_divInt_iff (by omega) (by omega)]
  rw [Int.mul_one, Int.mul_one]
  grind
theorem den_mod {i : Nat} {x : Rat} {k : Int} (hx : x.den < 2 ^ i) (hk : 0 < k) : (modQ x k).den < 2 ^ i := by
  rw [mod_q hk]
  have := (q_le (p := x.num % (x.den * k)) (den_pos x)).2
  omega
/-- where the rest lies -/
theorem mod_b {x : Rat} {k : Int} (hk : 0 < k) : 0 ≤ modQ x k ∧ modQ x k < k ∧ ∃ n : Int, modQ x k = x - (n : Rat) * (k : Rat) := by
  have hd := den_pos x
  have hdk : 0 < (x.den : Int) * k := Int.mul_pos hd hk
  have m0 := Int.emod_nonneg x.num (show (x.den : Int) * k ≠ 0 by omega)
  have m1 := Int.emod_lt_of_pos x.num hdk
  have hw : (0 : Rat) < (x.den : Int) := by
    have := Rat.intCast_lt_intCast.mpr hd
    exact this
  have e := div_mul (p := x.num % (x.den * k)) hd
  have m0' : (0 : Rat) ≤ ((x.num % (x.den * k) : Int) : Rat) := Rat.intCast_le_intCast.mpr m0
  have m1' : ((x.num % (x.den * k) : Int) : Rat) < ((x.den : Int) : Rat) * (k : Rat) := by rw [← Rat.intCast_mul]; exact Rat.intCast_lt_intCast.mpr m1
  rw [← mod_q hk] at e
  refine ⟨?_, ?_, x.num / (x.den * k), by unfold modQ; rw [Rat.intCast_mul]⟩
  · rw [← e] at m0'
    refine Rat.not_lt.mp fun z => Rat.not_lt.mpr m0' ?_
    have := Rat.mul_lt_mul_of_pos_right z hw
    rwa [Rat.zero_mul] at this
  · rw [← e, Rat.mul_comm] at m1'
    exact Rat.lt_of_mul_lt_mul_left m1' (Rat.le_of_lt hw)
theorem mod_uniq {x y : Rat} {k n : Int} (hk : 0 < k) (h : y = x - (n : Rat) * (k : Rat)) (h0 : 0 ≤ y) (h1 : y < k) : modQ x k = y := by
  obtain ⟨m0, m1, m, e⟩ := mod_b (x := x) hk
  have : n = m := by
    have kk : (0 : Rat) < (k : Rat) := Rat.intCast_lt_intCast.mpr hk
    have z : ∀ u v : Int, u < v → (v : Rat) * (k : Rat) - (u : Rat) * (k : Rat) ≥ k := fun u v huv => by
      have h2 : ((u + 1 : Int) : Rat) ≤ (v : Rat) := Rat.intCast_le_intCast.mpr (by omega)
      rw [Rat.intCast_add] at h2
      have h3 := Rat.mul_le_mul_of_nonneg_right h2 (Rat.le_of_lt kk)
      have h4 : ((1 : Int) : Rat) = 1 := rfl
      rw [h4] at h3
      grind
    rcases Int.lt_trichotomy n m with q | q | q
    · have := z n m q; exfalso; grind
    · exact q
    · have := z m n q; exfalso; grind
  rw [e, h, this]
def sp_plus : Fs := fun cs q _ => ∃ (x y : Rat) (i j : Nat), cs = [.fz (qD x), .fz (qD y)] ∧ (Fq i x ∧ Fq j y ∧ i + j ≤ 61) ∧ q (qD (x + y))
local macro_rules | `(tactic| walk_at "wp") => `(tactic| try dsimp only [u_seq, u_next, u_drop, u_ret, u_retO, u_ifS, u_asg, u_setO, u_par, u_par3, wDead, wDeadE, wIdxC, dEqS, dNeS, wRaise, wTry, wAPx, wIsX, wCallT, wListI, sufS, u_parO, u_par3O, u_parOc, u_aug, u_for, u_app, u_fix, u_gname, l_map1, l_map0, b_nt, b_nf, c_t, c_f, wVar, wVarB, wC, wOp, dI, dI0, dAdd, wNeg, wCmpV, wCmpT, dEq, dNe, dO, isNoneD, dIsN, dNotN, wAndT, wOrT, wNotT, truOk, truD, wTruT, wNotV, wAndV, wOrV, wIf, wChain, wBoolV, wIx, wNil, wCons, wTup, wLst, wN, wANil, wACons, wADr, wCall, wCallN, wgNil, wgCons, wgTup, wgLst, wSeqI, seqD, wRng1, wRng2, wRng3, wCal, dAbs, dMax2, dMin2, dInt1, wCalB, dLen, isIntD, isBoolD, isStrD, isTupD, isLstD, wIsi, wLRev, wListA, dTupA, startS, wO0, wO1, dSl, wSl, wSlN, wRepN, wRepT, dIn, dGcd, dIntsL, wStar, wSeti, wUnDr, wSetDr, spDraw, dBest, wSetL, wLc, wAll, wAny, wYes, stpAll, stpAny, u_wipe0, u_wipe1, u_lk0, u_lk1, lkC, spTake, List.getElem?_cons_zero, List.getElem?_cons_succ, List.getElem?_nil, List.set_cons_zero, List.set_cons_succ, List.length_cons, List.length_nil, List.replicate_succ, List.replicate_zero, List.cons_append, List.nil_append, Nat.reduceAdd, Nat.reduceSub, sp_lowest])
theorem ok_plus (T : Txt K mg A) (B : Tbs mg base A) : FnOk P w K mg base (L2N.CX P w) 2 A.a_plus A.d_plus ["one", "other"] (Spf K (LL A) sp_plus) := by
  refine fn_flat T.f_plus sc_plus (by intro cs q r h; unfold sp_plus at h; first | (obtain ⟨_, rfl, _⟩ := h; rfl) | (obtain ⟨_, _, rfl, _⟩ := h; rfl) | (obtain ⟨_, _, _, rfl, _⟩ := h; rfl) | (obtain ⟨_, _, _, _, rfl, _⟩ := h; rfl) | (obtain ⟨_, _, _, _, _, rfl, _⟩ := h; rfl) | (obtain ⟨_, _, _, _, _, _, rfl, _⟩ := h; rfl) | (obtain ⟨_, _, _, _, _, _, _, rfl, _⟩ := h; rfl) | (obtain ⟨_, _, _, _, _, _, _, _, rfl, _⟩ := h; rfl) | (obtain ⟨_, _, _, _, _, _, _, _, _, rfl, _⟩ := h; rfl) | (obtain ⟨_, _, _, _, _, _, _, _, _, _, rfl, _⟩ := h; rfl) | (obtain ⟨_, _, _, _, _, _, _, _, _, _, _, rfl, _⟩ := h; rfl) | (obtain ⟨_, _, _, _, _, _, _, _, _, _, _, _, rfl, _⟩ := h; rfl) | (split at h <;> first | rfl | exact h.elim)) (fun cdv hcd A' outer s H E hr tk po => ?_)
  have nd := sc_plus.nd
  refine ⟨_, _, (fss_one (fs_ret (fe_call (ok_lowest T B) (hr.mono (by decide)) tk rfl T.m_lowest T.f_lowest.kp T.b_lowest (fa_cons (fe_add (fe_mul (fe_ix (fb_var 0) fe_int) (fe_ix (fb_var 1) fe_int)) (fe_mul (fe_ix (fb_var 1) fe_int) (fe_ix (fb_var 0) fe_int))) (fa_cons (fe_mul (fe_ix (fb_var 0) fe_int) (fe_ix (fb_var 1) fe_int)) fa_nil))))), ?_⟩
  clear hr tk po nd
  clear hcd
  rintro cs q r ⟨x, y, i, j, rfl, ⟨hx, hy, hij⟩, h⟩
  have dx := fq_den hx (by omega)
  have dy := fq_den hy (by omega)
  have nx := fq_num hx (by omega)
  have ny := fq_num hy (by omega)
  have dd := den_mul hx.1 hy.1
  have c2 : (2 : Int) ^ (i + j) ≤ 2 ^ 61 := p2_le hij
  have b1 : (x.num * y.den).natAbs < 2 ^ 190 := by rw [Int.natAbs_mul]; exact Nat.lt_of_lt_of_le (Nat.mul_lt_mul'' nx (show (y.den : Int).natAbs < 2 ^ 61 by omega)) (by decide)
  have b2 : (y.num * x.den).natAbs < 2 ^ 190 := by rw [Int.natAbs_mul]; exact Nat.lt_of_lt_of_le (Nat.mul_lt_mul'' ny (show (x.den : Int).natAbs < 2 ^ 61 by omega)) (by decide)
  have p0 := Int.mul_pos dx.1 dy.1
  unfold qD at *
  walk_at "wp"
  walk_at "sm"
  rw [low_add]
  exact ⟨mul_r (by omega) (by omega), mul_r (by omega) (by omega), mul_r (by omega) (by omega), ⟨p0, by omega⟩, h⟩
def sp_minus : Fs := fun cs q _ => ∃ (x y : Rat) (i j : Nat), cs = [.fz (qD x), .fz (qD y)] ∧ (Fq i x ∧ Fq j y ∧ i + j ≤ 61) ∧ q (qD (x - y))
local macro_rules | `(tactic| walk_at "wp") => `(tactic| try dsimp only [u_seq, u_next, u_drop, u_ret, u_retO, u_ifS, u_asg, u_setO, u_par, u_par3, wDead, wDeadE, wIdxC, dEqS, dNeS, wRaise, wTry, wAPx, wIsX, wCallT, wListI, sufS, u_parO, u_par3O, u_parOc, u_aug, u_for, u_app, u_fix, u_gname, l_map1, l_map0, b_nt, b_nf, c_t, c_f, wVar, wVarB, wC, wOp, dI, dI0, dAdd, wNeg, wCmpV, wCmpT, dEq, dNe, dO, isNoneD, dIsN, dNotN, wAndT, wOrT, wNotT, truOk, truD, wTruT, wNotV, wAndV, wOrV, wIf, wChain, wBoolV, wIx, wNil, wCons, wTup, wLst, wN, wANil, wACons, wADr, wCall, wCallN, wgNil, wgCons, wgTup, wgLst, wSeqI, seqD, wRng1, wRng2, wRng3, wCal, dAbs, dMax2, dMin2, dInt1, wCalB, dLen, isIntD, isBoolD, isStrD, isTupD, isLstD, wIsi, wLRev, wListA, dTupA, startS, wO0, wO1, dSl, wSl, wSlN, wRepN, wRepT, dIn, dGcd, dIntsL, wStar, wSeti, wUnDr, wSetDr, spDraw, dBest, wSetL, wLc, wAll, wAny, wYes, stpAll, stpAny, u_wipe0, u_wipe1, u_lk0, u_lk1, lkC, spTake, List.getElem?_cons_zero, List.getElem?_cons_succ, List.getElem?_nil, List.set_cons_zero, List.set_cons_succ, List.length_cons, List.length_nil, List.replicate_succ, List.replicate_zero, List.cons_append, List.nil_append, Nat.reduceAdd, Nat.reduceSub, sp_lowest])
theorem ok_minus (T : Txt K mg A) (B : Tbs mg base A) : FnOk P w K mg base (L2N.CX P w) 2 A.a_minus A.d_minus ["one", "other"] (Spf K (LL A) sp_minus) := by
  refine fn_flat T.f_minus sc_minus (by intro cs q r h; unfold sp_minus at h; first | (obtain ⟨_, rfl, _⟩ := h; rfl) | (obtain ⟨_, _, rfl, _⟩ := h; rfl) | (obtain ⟨_, _, _, rfl, _⟩ := h; rfl) | (obtain ⟨_, _, _, _, rfl, _⟩ := h; rfl) | (obtain ⟨_, _, _, _, _, rfl, _⟩ := h; rfl) | (obtain ⟨_, _, _, _, _, _, rfl, _⟩ := h; rfl) | (obtain ⟨_, _, _, _, _, _, _, rfl, _⟩ := h; rfl) | (obtain ⟨_, _, _, _, _, _, _, _, rfl, _⟩ := h; rfl) | (obtain ⟨_, _, _, _, _, _, _, _, _, rfl, _⟩ := h; rfl) | (obtain ⟨_, _, _, _, _, _, _, _, _, _, rfl, _⟩ := h; rfl) | (obtain ⟨_, _, _, _, _, _, _, _, _, _, _, rfl, _⟩ := h; rfl) | (obtain ⟨_, _, _, _, _, _, _, _, _, _, _, _, rfl, _⟩ := h; rfl) | (split at h <;> first | rfl | exact h.elim)) (fun cdv hcd A' outer s H E hr tk po => ?_)
  have nd := sc_minus.nd
  refine ⟨_, _, (fss_one (fs_ret (fe_call (ok_lowest T B) (hr.mono (by decide)) tk rfl T.m_lowest T.f_lowest.kp T.b_lowest (fa_cons (fe_sub (fe_mul (fe_ix (fb_var 0) fe_int) (fe_ix (fb_var 1) fe_int)) (fe_mul (fe_ix (fb_var 1) fe_int) (fe_ix (fb_var 0) fe_int))) (fa_cons (fe_mul (fe_ix (fb_var 0) fe_int) (fe_ix (fb_var 1) fe_int)) fa_nil))))), ?_⟩
  clear hr tk po nd
  clear hcd
  rintro cs q r ⟨x, y, i, j, rfl, ⟨hx, hy, hij⟩, h⟩
  have dx := fq_den hx (by omega)
  have dy := fq_den hy (by omega)
  have nx := fq_num hx (by omega)
  have ny := fq_num hy (by omega)
  have dd := den_mul hx.1 hy.1
  have c2 : (2 : Int) ^ (i + j) ≤ 2 ^ 61 := p2_le hij
  have b1 : (x.num * y.den).natAbs < 2 ^ 190 := by rw [Int.natAbs_mul]; exact Nat.lt_of_lt_of_le (Nat.mul_lt_mul'' nx (show (y.den : Int).natAbs < 2 ^ 61 by omega)) (by decide)
  have b2 : (y.num * x.den).natAbs < 2 ^ 190 := by rw [Int.natAbs_mul]; exact Nat.lt_of_lt_of_le (Nat.mul_lt_mul'' ny (show (x.den : Int).natAbs < 2 ^ 61 by omega)) (by decide)
  have p0 := Int.mul_pos dx.1 dy.1
  unfold qD at *
  walk_at "wp"
  walk_at "sm"
  rw [low_sub]
  exact ⟨mul_r (by omega) (by omega), mul_r (by omega) (by omega), mul_r (by omega) (by omega), ⟨p0, by omega⟩, h⟩
def sp_times : Fs := fun cs q _ => ∃ (x y : Rat) (i j : Nat), cs = [.fz (qD x), .fz (qD y)] ∧ (Fq i x ∧ Fq j y ∧ i + j ≤ 61) ∧ q (qD (x * y))
local macro_rules | `(tactic| walk_at "wp") => `(tactic| try dsimp only [u_seq, u_next, u_drop, u_ret, u_retO, u_ifS, u_asg, u_setO, u_par, u_par3, wDead, wDeadE, wIdxC, dEqS, dNeS, wRaise, wTry, wAPx, wIsX, wCallT, wListI, sufS, u_parO, u_par3O, u_parOc, u_aug, u_for, u_app, u_fix, u_gname, l_map1, l_map0, b_nt, b_nf, c_t, c_f, wVar, wVarB, wC, wOp, dI, dI0, dAdd, wNeg, wCmpV, wCmpT, dEq, dNe, dO, isNoneD, dIsN, dNotN, wAndT, wOrT, wNotT, truOk, truD, wTruT, wNotV, wAndV, wOrV, wIf, wChain, wBoolV, wIx, wNil, wCons, wTup, wLst, wN, wANil, wACons, wADr, wCall, wCallN, wgNil, wgCons, wgTup, wgLst, wSeqI, seqD, wRng1, wRng2, wRng3, wCal, dAbs, dMax2, dMin2, dInt1, wCalB, dLen, isIntD, isBoolD, isStrD, isTupD, isLstD, wIsi, wLRev, wListA, dTupA, startS, wO0, wO1, dSl, wSl, wSlN, wRepN, wRepT, dIn, dGcd, dIntsL, wStar, wSeti, wUnDr, wSetDr, spDraw, dBest, wSetL, wLc, wAll, wAny, wYes, stpAll, stpAny, u_wipe0, u_wipe1, u_lk0, u_lk1, lkC, spTake, List.getElem?_cons_zero, List.getElem?_cons_succ, List.getElem?_nil, List.set_cons_zero, List.set_cons_succ, List.length_cons, List.length_nil, List.replicate_succ, List.replicate_zero, List.cons_append, List.nil_append, Nat.reduceAdd, Nat.reduceSub, sp_lowest])
theorem ok_times (T : Txt K mg A) (B : Tbs mg base A) : FnOk P w K mg base (L2N.CX P w) 2 A.a_times A.d_times ["one", "other"] (Spf K (LL A) sp_times) := by
  refine fn_flat T.f_times sc_times (by intro cs q r h; unfold sp_times at h; first | (obtain ⟨_, rfl, _⟩ := h; rfl) | (obtain ⟨_, _, rfl, _⟩ := h; rfl) | (obtain ⟨_, _, _, rfl, _⟩ := h; rfl) | (obtain ⟨_, _, _, _, rfl, _⟩ := h; rfl) | (obtain ⟨_, _, _, _, _, rfl, _⟩ := h; rfl) | (obtain ⟨_, _, _, _, _, _, rfl, _⟩ := h; rfl) | (obtain ⟨_, _, _, _, _, _, _, rfl, _⟩ := h; rfl) | (obtain ⟨_, _, _, _, _, _, _, _, rfl, _⟩ := h; rfl) | (obtain ⟨_, _, _, _, _, _, _, _, _, rfl, _⟩ := h; rfl) | (obtain ⟨_, _, _, _, _, _, _, _, _, _, rfl, _⟩ := h; rfl) | (obtain ⟨_, _, _, _, _, _, _, _, _, _, _, rfl, _⟩ := h; rfl) | (obtain ⟨_, _, _, _, _, _, _, _, _, _, _, _, rfl, _⟩ := h; rfl) | (split at h <;> first | rfl | exact h.elim)) (fun cdv hcd A' outer s H E hr tk po => ?_)
  have nd := sc_times.nd
  refine ⟨_, _, (fss_one (fs_ret (fe_call (ok_lowest T B) (hr.mono (by decide)) tk rfl T.m_lowest T.f_lowest.kp T.b_lowest (fa_cons (fe_mul (fe_ix (fb_var 0) fe_int) (fe_ix (fb_var 1) fe_int)) (fa_cons (fe_mul (fe_ix (fb_var 0) fe_int) (fe_ix (fb_var 1) fe_int)) fa_nil))))), ?_⟩
  clear hr tk po nd
  clear hcd
  rintro cs q r ⟨x, y, i, j, rfl, ⟨hx, hy, hij⟩, h⟩
  have dx := fq_den hx (by omega)
  have dy := fq_den hy (by omega)
  have nx := fq_num hx (by omega)
  have ny := fq_num hy (by omega)
  have dd := den_mul hx.1 hy.1
  have c2 : (2 : Int) ^ (i + j) ≤ 2 ^ 61 := p2_le hij
  have b1 : (x.num * y.den).natAbs < 2 ^ 190 := by rw [Int.natAbs_mul]; exact Nat.lt_of_lt_of_le (Nat.mul_lt_mul'' nx (show (y.den : Int).natAbs < 2 ^ 61 by omega)) (by decide)
  have b2 : (y.num * x.den).natAbs < 2 ^ 190 := by rw [Int.natAbs_mul]; exact Nat.lt_of_lt_of_le (Nat.mul_lt_mul'' ny (show (x.den : Int).natAbs < 2 ^ 61 by omega)) (by decide)
  have p0 := Int.mul_pos dx.1 dy.1
  have m1 : FL.MulOk x.num y.num := mul_w nx ny (by decide)
  have b3 := fq_numM hx hy hij
  unfold qD at *
  walk_at "wp"
  walk_at "sm"
  rw [low_mul]
  exact ⟨m1, mul_r (by omega) (by omega), ⟨p0, by omega⟩, h⟩
def sp_less : Fs := fun cs q _ => ∃ (x y : Rat) (i j : Nat), cs = [.fz (qD x), .fz (qD y)] ∧ (Fq i x ∧ Fq j y ∧ i ≤ 61 ∧ j ≤ 61) ∧ q (.bool (decide (x < y)))
def sp__law_less : Fs := sp_less
def sp__law_and : Fs := sp_plus
local macro_rules | `(tactic| walk_at "wp") => `(tactic| try dsimp only [u_seq, u_next, u_drop, u_ret, u_retO, u_ifS, u_asg, u_setO, u_par, u_par3, wDead, wDeadE, wIdxC, dEqS, dNeS, wRaise, wTry, wAPx, wIsX, wCallT, wListI, sufS, u_parO, u_par3O, u_parOc, u_aug, u_for, u_app, u_fix, u_gname, l_map1, l_map0, b_nt, b_nf, c_t, c_f, wVar, wVarB, wC, wOp, dI, dI0, dAdd, wNeg, wCmpV, wCmpT, dEq, dNe, dO, isNoneD, dIsN, dNotN, wAndT, wOrT, wNotT, truOk, truD, wTruT, wNotV, wAndV, wOrV, wIf, wChain, wBoolV, wIx, wNil, wCons, wTup, wLst, wN, wANil, wACons, wADr, wCall, wCallN, wgNil, wgCons, wgTup, wgLst, wSeqI, seqD, wRng1, wRng2, wRng3, wCal, dAbs, dMax2, dMin2, dInt1, wCalB, dLen, isIntD, isBoolD, isStrD, isTupD, isLstD, wIsi, wLRev, wListA, dTupA, startS, wO0, wO1, dSl, wSl, wSlN, wRepN, wRepT, dIn, dGcd, dIntsL, wStar, wSeti, wUnDr, wSetDr, spDraw, dBest, wSetL, wLc, wAll, wAny, wYes, stpAll, stpAny, u_wipe0, u_wipe1, u_lk0, u_lk1, lkC, spTake, List.getElem?_cons_zero, List.getElem?_cons_succ, List.getElem?_nil, List.set_cons_zero, List.set_cons_succ, List.length_cons, List.length_nil, List.replicate_succ, List.replicate_zero, List.cons_append, List.nil_append, Nat.reduceAdd, Nat.reduceSub, sp__law_made])
theorem ok__law_and (T : Txt K mg A) (B : Tbs mg base A) : FnOk P w K mg base (L2N.CX P w) 4 A.a__law_and A.d__law_and ["one", "other"] (Spf K (LL A) sp__law_and) := by
  refine fn_flat T.f__law_and sc__law_and (by intro cs q r h; unfold sp__law_and at h; first | (obtain ⟨_, rfl, _⟩ := h; rfl) | (obtain ⟨_, _, rfl, _⟩ := h; rfl) | (obtain ⟨_, _, _, rfl, _⟩ := h; rfl) | (obtain ⟨_, _, _, _, rfl, _⟩ := h; rfl) | (obtain ⟨_, _, _, _, _, rfl, _⟩ := h; rfl) | (obtain ⟨_, _, _, _, _, _, rfl, _⟩ := h; rfl) | (obtain ⟨_, _, _, _, _, _, _, rfl, _⟩ := h; rfl) | (obtain ⟨_, _, _, _, _, _, _, _, rfl, _⟩ := h; rfl) | (obtain ⟨_, _, _, _, _, _, _, _, _, rfl, _⟩ := h; rfl) | (obtain ⟨_, _, _, _, _, _, _, _, _, _, rfl, _⟩ := h; rfl) | (obtain ⟨_, _, _, _, _, _, _, _, _, _, _, rfl, _⟩ := h; rfl) | (obtain ⟨_, _, _, _, _, _, _, _, _, _, _, _, rfl, _⟩ := h; rfl) | (split at h <;> first | rfl | exact h.elim)) (fun cdv hcd A' outer s H E hr tk po => ?_)
  have nd := sc__law_and.nd
  refine ⟨_, _, (fss_one (fs_ret (fe_call (ok__law_made T B) (hr.mono (by decide)) tk rfl T.m__law_made T.f__law_made.kp T.b__law_made (fa_cons (fe_add (fe_mul (fe_ix (fb_var 0) fe_int) (fe_ix (fb_var 1) fe_int)) (fe_mul (fe_ix (fb_var 1) fe_int) (fe_ix (fb_var 0) fe_int))) (fa_cons (fe_mul (fe_ix (fb_var 0) fe_int) (fe_ix (fb_var 1) fe_int)) fa_nil))))), ?_⟩
  clear hr tk po nd
  clear hcd
  rintro cs q r ⟨x, y, i, j, rfl, ⟨hx, hy, hij⟩, h⟩
  have dx := fq_den hx (by omega)
  have dy := fq_den hy (by omega)
  have nx := fq_num hx (by omega)
  have ny := fq_num hy (by omega)
  have dd := den_mul hx.1 hy.1
  have c2 : (2 : Int) ^ (i + j) ≤ 2 ^ 61 := p2_le hij
  have b1 : (x.num * y.den).natAbs < 2 ^ 190 := by rw [Int.natAbs_mul]; exact Nat.lt_of_lt_of_le (Nat.mul_lt_mul'' nx (show (y.den : Int).natAbs < 2 ^ 61 by omega)) (by decide)
  have b2 : (y.num * x.den).natAbs < 2 ^ 190 := by rw [Int.natAbs_mul]; exact Nat.lt_of_lt_of_le (Nat.mul_lt_mul'' ny (show (x.den : Int).natAbs < 2 ^ 61 by omega)) (by decide)
  have p0 := Int.mul_pos dx.1 dy.1
  unfold qD at *
  walk_at "wp"
  walk_at "sm"
  rw [low_add]
  exact ⟨mul_r (by omega) (by omega), mul_r (by omega) (by omega), mul_r (by omega) (by omega), ⟨by omega, p0, by omega, by omega⟩, h⟩
def sp__law_away : Fs := sp_minus
local macro_rules | `(tactic| walk_at "wp") => `(tactic| try dsimp only [u_seq, u_next, u_drop, u_ret, u_retO, u_ifS, u_asg, u_setO, u_par, u_par3, wDead, wDeadE, wIdxC, dEqS, dNeS, wRaise, wTry, wAPx, wIsX, wCallT, wListI, sufS, u_parO, u_par3O, u_parOc, u_aug, u_for, u_app, u_fix, u_gname, l_map1, l_map0, b_nt, b_nf, c_t, c_f, wVar, wVarB, wC, wOp, dI, dI0, dAdd, wNeg, wCmpV, wCmpT, dEq, dNe, dO, isNoneD, dIsN, dNotN, wAndT, wOrT, wNotT, truOk, truD, wTruT, wNotV, wAndV, wOrV, wIf, wChain, wBoolV, wIx, wNil, wCons, wTup, wLst, wN, wANil, wACons, wADr, wCall, wCallN, wgNil, wgCons, wgTup, wgLst, wSeqI, seqD, wRng1, wRng2, wRng3, wCal, dAbs, dMax2, dMin2, dInt1, wCalB, dLen, isIntD, isBoolD, isStrD, isTupD, isLstD, wIsi, wLRev, wListA, dTupA, startS, wO0, wO1, dSl, wSl, wSlN, wRepN, wRepT, dIn, dGcd, dIntsL, wStar, wSeti, wUnDr, wSetDr, spDraw, dBest, wSetL, wLc, wAll, wAny, wYes, stpAll, stpAny, u_wipe0, u_wipe1, u_lk0, u_lk1, lkC, spTake, List.getElem?_cons_zero, List.getElem?_cons_succ, List.getElem?_nil, List.set_cons_zero, List.set_cons_succ, List.length_cons, List.length_nil, List.replicate_succ, List.replicate_zero, List.cons_append, List.nil_append, Nat.reduceAdd, Nat.reduceSub, sp__law_made])
theorem ok__law_away (T : Txt K mg A) (B : Tbs mg base A) : FnOk P w K mg base (L2N.CX P w) 4 A.a__law_away A.d__law_away ["one", "other"] (Spf K (LL A) sp__law_away) := by
  refine fn_flat T.f__law_away sc__law_away (by intro cs q r h; unfold sp__law_away at h; first | (obtain ⟨_, rfl, _⟩ := h; rfl) | (obtain ⟨_, _, rfl, _⟩ := h; rfl) | (obtain ⟨_, _, _, rfl, _⟩ := h; rfl) | (obtain ⟨_, _, _, _, rfl, _⟩ := h; rfl) | (obtain ⟨_, _, _, _, _, rfl, _⟩ := h; rfl) | (obtain ⟨_, _, _, _, _, _, rfl, _⟩ := h; rfl) | (obtain ⟨_, _, _, _, _, _, _, rfl, _⟩ := h; rfl) | (obtain ⟨_, _, _, _, _, _, _, _, rfl, _⟩ := h; rfl) | (obtain ⟨_, _, _, _, _, _, _, _, _, rfl, _⟩ := h; rfl) | (obtain ⟨_, _, _, _, _, _, _, _, _, _, rfl, _⟩ := h; rfl) | (obtain ⟨_, _, _, _, _, _, _, _, _, _, _, rfl, _⟩ := h; rfl) | (obtain ⟨_, _, _, _, _, _, _, _, _, _, _, _, rfl, _⟩ := h; rfl) | (split at h <;> first | rfl | exact h.elim)) (fun cdv hcd A' outer s H E hr tk po => ?_)
  have nd := sc__law_away.nd
  refine ⟨_, _, (fss_one (fs_ret (fe_call (ok__law_made T B) (hr.mono (by decide)) tk rfl T.m__law_made T.f__law_made.kp T.b__law_made (fa_cons (fe_sub (fe_mul (fe_ix (fb_var 0) fe_int) (fe_ix (fb_var 1) fe_int)) (fe_mul (fe_ix (fb_var 1) fe_int) (fe_ix (fb_var 0) fe_int))) (fa_cons (fe_mul (fe_ix (fb_var 0) fe_int) (fe_ix (fb_var 1) fe_int)) fa_nil))))), ?_⟩
  clear hr tk po nd
  clear hcd
  rintro cs q r ⟨x, y, i, j, rfl, ⟨hx, hy, hij⟩, h⟩
  have dx := fq_den hx (by omega)
  have dy := fq_den hy (by omega)
  have nx := fq_num hx (by omega)
  have ny := fq_num hy (by omega)
  have dd := den_mul hx.1 hy.1
  have c2 : (2 : Int) ^ (i + j) ≤ 2 ^ 61 := p2_le hij
  have b1 : (x.num * y.den).natAbs < 2 ^ 190 := by rw [Int.natAbs_mul]; exact Nat.lt_of_lt_of_le (Nat.mul_lt_mul'' nx (show (y.den : Int).natAbs < 2 ^ 61 by omega)) (by decide)
  have b2 : (y.num * x.den).natAbs < 2 ^ 190 := by rw [Int.natAbs_mul]; exact Nat.lt_of_lt_of_le (Nat.mul_lt_mul'' ny (show (x.den : Int).natAbs < 2 ^ 61 by omega)) (by decide)
  have p0 := Int.mul_pos dx.1 dy.1
  unfold qD at *
  walk_at "wp"
  walk_at "sm"
  rw [low_sub]
  exact ⟨mul_r (by omega) (by omega), mul_r (by omega) (by omega), mul_r (by omega) (by omega), ⟨by omega, p0, by omega, by omega⟩, h⟩
def sp__law_by : Fs := sp_times
local macro_rules | `(tactic| walk_at "wp") => `(tactic| try dsimp only [u_seq, u_next, u_drop, u_ret, u_retO, u_ifS, u_asg, u_setO, u_par, u_par3, wDead, wDeadE, wIdxC, dEqS, dNeS, wRaise, wTry, wAPx, wIsX, wCallT, wListI, sufS, u_parO, u_par3O, u_parOc, u_aug, u_for, u_app, u_fix, u_gname, l_map1, l_map0, b_nt, b_nf, c_t, c_f, wVar, wVarB, wC, wOp, dI, dI0, dAdd, wNeg, wCmpV, wCmpT, dEq, dNe, dO, isNoneD, dIsN, dNotN, wAndT, wOrT, wNotT, truOk, truD, wTruT, wNotV, wAndV, wOrV, wIf, wChain, wBoolV, wIx, wNil, wCons, wTup, wLst, wN, wANil, wACons, wADr, wCall, wCallN, wgNil, wgCons, wgTup, wgLst, wSeqI, seqD, wRng1, wRng2, wRng3, wCal, dAbs, dMax2, dMin2, dInt1, wCalB, dLen, isIntD, isBoolD, isStrD, isTupD, isLstD, wIsi, wLRev, wListA, dTupA, startS, wO0, wO1, dSl, wSl, wSlN, wRepN, wRepT, dIn, dGcd, dIntsL, wStar, wSeti, wUnDr, wSetDr, spDraw, dBest, wSetL, wLc, wAll, wAny, wYes, stpAll, stpAny, u_wipe0, u_wipe1, u_lk0, u_lk1, lkC, spTake, List.getElem?_cons_zero, List.getElem?_cons_succ, List.getElem?_nil, List.set_cons_zero, List.set_cons_succ, List.length_cons, List.length_nil, List.replicate_succ, List.replicate_zero, List.cons_append, List.nil_append, Nat.reduceAdd, Nat.reduceSub, sp__law_made])
theorem ok__law_by (T : Txt K mg A) (B : Tbs mg base A) : FnOk P w K mg base (L2N.CX P w) 4 A.a__law_by A.d__law_by ["one", "other"] (Spf K (LL A) sp__law_by) := by
  refine fn_flat T.f__law_by sc__law_by (by intro cs q r h; unfold sp__law_by at h; first | (obtain ⟨_, rfl, _⟩ := h; rfl) | (obtain ⟨_, _, rfl, _⟩ := h; rfl) | (obtain ⟨_, _, _, rfl, _⟩ := h; rfl) | (obtain ⟨_, _, _, _, rfl, _⟩ := h; rfl) | (obtain ⟨_, _, _, _, _, rfl, _⟩ := h; rfl) | (obtain ⟨_, _, _, _, _, _, rfl, _⟩ := h; rfl) | (obtain ⟨_, _, _, _, _, _, _, rfl, _⟩ := h; rfl) | (obtain ⟨_, _, _, _, _, _, _, _, rfl, _⟩ := h; rfl) | (obtain ⟨_, _, _, _, _, _, _, _, _, rfl, _⟩ := h; rfl) | (obtain ⟨_, _, _, _, _, _, _, _, _, _, rfl, _⟩ := h; rfl) | (obtain ⟨_, _, _, _, _, _, _, _, _, _, _, rfl, _⟩ := h; rfl) | (obtain ⟨_, _, _, _, _, _, _, _, _, _, _, _, rfl, _⟩ := h; rfl) | (split at h <;> first | rfl | exact h.elim)) (fun cdv hcd A' outer s H E hr tk po => ?_)
  have nd := sc__law_by.nd
  refine ⟨_, _, (fss_one (fs_ret (fe_call (ok__law_made T B) (hr.mono (by decide)) tk rfl T.m__law_made T.f__law_made.kp T.b__law_made (fa_cons (fe_mul (fe_ix (fb_var 0) fe_int) (fe_ix (fb_var 1) fe_int)) (fa_cons (fe_mul (fe_ix (fb_var 0) fe_int) (fe_ix (fb_var 1) fe_int)) fa_nil))))), ?_⟩
  clear hr tk po nd
  clear hcd
  rintro cs q r ⟨x, y, i, j, rfl, ⟨hx, hy, hij⟩, h⟩
  have dx := fq_den hx (by omega)
  have dy := fq_den hy (by omega)
  have nx := fq_num hx (by omega)
  have ny := fq_num hy (by omega)
  have dd := den_mul hx.1 hy.1
  have c2 : (2 : Int) ^ (i + j) ≤ 2 ^ 61 := p2_le hij
  have b1 : (x.num * y.den).natAbs < 2 ^ 190 := by rw [Int.natAbs_mul]; exact Nat.lt_of_lt_of_le (Nat.mul_lt_mul'' nx (show (y.den : Int).natAbs < 2 ^ 61 by omega)) (by decide)
  have b2 : (y.num * x.den).natAbs < 2 ^ 190 := by rw [Int.natAbs_mul]; exact Nat.lt_of_lt_of_le (Nat.mul_lt_mul'' ny (show (x.den : Int).natAbs < 2 ^ 61 by omega)) (by decide)
  have p0 := Int.mul_pos dx.1 dy.1
  have m1 : FL.MulOk x.num y.num := mul_w nx ny (by decide)
  have b3 := fq_numM hx hy hij
  unfold qD at *
  walk_at "wp"
  walk_at "sm"
  rw [low_mul]
  exact ⟨m1, mul_r (by omega) (by omega), ⟨by omega, p0, by omega, by omega⟩, h⟩
theorem mod_low {x : Rat} {k : Int} : lowD (x.num - x.num / (x.den * k) * k * x.den) x.den = qD (modQ x k) := by
  have := low_sub (x := x) (y := ((x.num / (x.den * k) * k : Int) : Rat))
  have e1 : ((x.num / (x.den * k) * k : Int) : Rat).num = x.num / (x.den * k) * k := rfl
  have e2 : ((x.num / (x.den * k) * k : Int) : Rat).den = 1 := rfl
  rw [e1, e2] at this
  rw [show ((1 : Nat) : Int) = 1 from rfl, Int.mul_one, Int.mul_one] at this
  exact this
theorem mod_num {x : Rat} {k : Int} (hk : 0 < k) : 0 ≤ x.num - x.num / (x.den * k) * k * x.den ∧ x.num - x.num / (x.den * k) * k * x.den < x.den * k := by
  have hdk : 0 < (x.den : Int) * k := Int.mul_pos (den_pos x) hk
  have e : x.num - x.num / (x.den * k) * k * x.den = x.num % (x.den * k) := by rw [Int.emod_def]; grind
  rw [e]
  exact ⟨Int.emod_nonneg _ (by omega), Int.emod_lt_of_pos _ hdk⟩
theorem den_k {x : Rat} {k : Int} {i : Nat} (hx : Fq i x) (hi : i ≤ 61) (hk : 0 < k) (hk2 : k < 2 ^ 20) : 0 < (x.den : Int) * k ∧ (x.den : Int) * k < 2 ^ 81 := by
  have dx := fq_den hx hi
  refine ⟨Int.mul_pos (den_pos x) hk, ?_⟩
  have h1 : (x.den : Int) * k < 2 ^ 61 * k := Int.mul_lt_mul_of_pos_right dx.2 hk
  have h2 : (2 : Int) ^ 61 * k < 2 ^ 61 * 2 ^ 20 := Int.mul_lt_mul_of_pos_left hk2 (by decide)
  omega
def sp__law_rest : Fs := fun cs q _ => ∃ (x : Rat) (k : Int) (i : Nat), cs = [.fz (qD x), .fz (.int k)] ∧ (Fq i x ∧ i ≤ 61 ∧ 0 < k ∧ k < 2 ^ 20) ∧ q (qD (modQ x k))
local macro_rules | `(tactic| walk_at "wp") => `(tactic| try dsimp only [u_seq, u_next, u_drop, u_ret, u_retO, u_ifS, u_asg, u_setO, u_par, u_par3, wDead, wDeadE, wIdxC, dEqS, dNeS, wRaise, wTry, wAPx, wIsX, wCallT, wListI, sufS, u_parO, u_par3O, u_parOc, u_aug, u_for, u_app, u_fix, u_gname, l_map1, l_map0, b_nt, b_nf, c_t, c_f, wVar, wVarB, wC, wOp, dI, dI0, dAdd, wNeg, wCmpV, wCmpT, dEq, dNe, dO, isNoneD, dIsN, dNotN, wAndT, wOrT, wNotT, truOk, truD, wTruT, wNotV, wAndV, wOrV, wIf, wChain, wBoolV, wIx, wNil, wCons, wTup, wLst, wN, wANil, wACons, wADr, wCall, wCallN, wgNil, wgCons, wgTup, wgLst, wSeqI, seqD, wRng1, wRng2, wRng3, wCal, dAbs, dMax2, dMin2, dInt1, wCalB, dLen, isIntD, isBoolD, isStrD, isTupD, isLstD, wIsi, wLRev, wListA, dTupA, startS, wO0, wO1, dSl, wSl, wSlN, wRepN, wRepT, dIn, dGcd, dIntsL, wStar, wSeti, wUnDr, wSetDr, spDraw, dBest, wSetL, wLc, wAll, wAny, wYes, stpAll, stpAny, u_wipe0, u_wipe1, u_lk0, u_lk1, lkC, spTake, List.getElem?_cons_zero, List.getElem?_cons_succ, List.getElem?_nil, List.set_cons_zero, List.set_cons_succ, List.length_cons, List.length_nil, List.replicate_succ, List.replicate_zero, List.cons_append, List.nil_append, Nat.reduceAdd, Nat.reduceSub, sp__law_made])
theorem ok__law_rest (T : Txt K mg A) (B : Tbs mg base A) : FnOk P w K mg base (L2N.CX P w) 4 A.a__law_rest A.d__law_rest ["value", "size"] (Spf K (LL A) sp__law_rest) := by
  refine fn_flat T.f__law_rest sc__law_rest (by intro cs q r h; unfold sp__law_rest at h; first | (obtain ⟨_, rfl, _⟩ := h; rfl) | (obtain ⟨_, _, rfl, _⟩ := h; rfl) | (obtain ⟨_, _, _, rfl, _⟩ := h; rfl) | (obtain ⟨_, _, _, _, rfl, _⟩ := h; rfl) | (obtain ⟨_, _, _, _, _, rfl, _⟩ := h; rfl) | (obtain ⟨_, _, _, _, _, _, rfl, _⟩ := h; rfl) | (obtain ⟨_, _, _, _, _, _, _, rfl, _⟩ := h; rfl) | (obtain ⟨_, _, _, _, _, _, _, _, rfl, _⟩ := h; rfl) | (obtain ⟨_, _, _, _, _, _, _, _, _, rfl, _⟩ := h; rfl) | (obtain ⟨_, _, _, _, _, _, _, _, _, _, rfl, _⟩ := h; rfl) | (obtain ⟨_, _, _, _, _, _, _, _, _, _, _, rfl, _⟩ := h; rfl) | (obtain ⟨_, _, _, _, _, _, _, _, _, _, _, _, rfl, _⟩ := h; rfl) | (split at h <;> first | rfl | exact h.elim)) (fun cdv hcd A' outer s H E hr tk po => ?_)
  have nd := sc__law_rest.nd
  refine ⟨_, _, (fss_cons (fs_set (i := 2) nd (fe_div (fe_ix (fb_var 0) fe_int) (fe_mul (fe_ix (fb_var 0) fe_int) (fe_var 1))))
 (fss_one (fs_ret (fe_call (ok__law_made T B) (hr.mono (by decide)) tk rfl T.m__law_made T.f__law_made.kp T.b__law_made (fa_cons (fe_sub (fe_ix (fb_var 0) fe_int) (fe_mul (fe_mul (fe_var 2) (fe_var 1)) (fe_ix (fb_var 0) fe_int))) (fa_cons (fe_ix (fb_var 0) fe_int) fa_nil)))))), ?_⟩
  clear hr tk po nd
  clear hcd
  rintro cs q r ⟨x, k, i, rfl, ⟨hx, hi, k0, k1⟩, h⟩
  have dk := den_k hx hi k0 k1
  have dx := fq_den hx hi
  have mn := mod_num (x := x) k0
  rw [← mod_low] at h
  unfold qD at *
  walk_at "wp"
  walk_at "sm"
  exact ⟨mul_r (by omega) (by omega), ⟨dk.1, div_w (m := 81) (by omega) (by decide)⟩, mul_r (by omega) (by omega), mul_r (by omega) (by omega), ⟨by omega, dx.1, by omega, by omega⟩, h⟩
/-- x is a whole number of N-th parts -/
def In (N : Int) (x : Rat) : Prop := ∃ z : Int, x * (N : Rat) = (z : Rat)
theorem in_int (N n : Int) : In N (n : Rat) := ⟨n * N, by rw [Rat.intCast_mul]⟩
theorem in_add {N : Int} {x y : Rat} (hx : In N x) (hy : In N y) : In N (x + y) := by
  obtain ⟨a, ha⟩ := hx
  obtain ⟨b, hb⟩ := hy
  exact ⟨a + b, by rw [Rat.add_mul, ha, hb, Rat.intCast_add]⟩
theorem in_sub {N : Int} {x y : Rat} (hx : In N x) (hy : In N y) : In N (x - y) := by
  obtain ⟨a, ha⟩ := hx
  obtain ⟨b, hb⟩ := hy
  exact ⟨a - b, by rw [Rat.intCast_sub, ← ha, ← hb]; grind⟩
theorem in_mul {N M : Int} {x y : Rat} (hx : In N x) (hy : In M y) : In (N * M) (x * y) := by
  obtain ⟨a, ha⟩ := hx
  obtain ⟨b, hb⟩ := hy
  refine ⟨a * b, ?_⟩
  rw [Rat.intCast_mul, Rat.intCast_mul, ← ha, ← hb]; grind
theorem in_more {N c : Int} {x : Rat} (hx : In N x) : In (N * c) x := by
  obtain ⟨a, ha⟩ := hx
  exact ⟨a * c, by rw [Rat.intCast_mul, Rat.intCast_mul, ← ha]; grind⟩
theorem in_mod {N k : Int} {x : Rat} (hk : 0 < k) (hx : In N x) : In N (modQ x k) := by
  obtain ⟨_, _, n, e⟩ := mod_b (x := x) hk
  rw [e]
  have := in_sub hx (in_int N (n * k))
  rwa [Rat.intCast_mul] at this
theorem in_div {p w : Int} (h : 0 < w) : In w (Rat.divInt p w) := ⟨p, div_mul h⟩
theorem in_den {N : Int} {x : Rat} (hN : 0 < N) (hx : In N x) : (x.den : Int) ≤ N := by
  obtain ⟨a, ha⟩ := hx
  have := div_is hN ha
  rw [← this]
  exact (q_le (p := a) hN).2
theorem in_fq {N : Int} {x : Rat} (d : Nat) (hx : In N x) (hN : 0 < N) (hd : N < 2 ^ d) (h1 : -(1152921504606846976 : Rat) ≤ x) (h2 : x ≤ 1152921504606846976) : Fq d x := by
  refine ⟨?_, h1, h2⟩
  have := in_den hN hx
  have e : ((2 ^ d : Nat) : Int) = 2 ^ d := Int.natCast_pow 2 d
  omega
theorem in_k {k w : Int} {m : Int} {x : Rat} (h : w * k = m) (hx : In w x) : In m x := by rw [← h]; exact in_more hx
theorem q_tup {p w : Int} (hw : 0 < w) (g : gcdI p w = 1) {x : Rat} (hx : x * (w : Rat) = (p : Rat)) : PyData.tuple [.int p, .int w] = qD x := by
  rw [← low_one g, low_q hw, div_is hw hx]
theorem frac_b {v w B : Int} (h : 0 < w) (h0 : 0 ≤ v) (h1 : v < B * w) : 0 ≤ Rat.divInt v w ∧ Rat.divInt v w < (B : Rat) := by
  have e := div_mul (p := v) h
  have hw : (0 : Rat) < (w : Rat) := Rat.intCast_lt_intCast.mpr h
  refine ⟨Rat.divInt_nonneg h0 (Int.le_of_lt h), ?_⟩
  have : (v : Rat) < (B : Rat) * (w : Rat) := by rw [← Rat.intCast_mul]; exact Rat.intCast_lt_intCast.mpr h1
  rw [← e, Rat.mul_comm _ (w : Rat), Rat.mul_comm _ (w : Rat)] at this
  exact Rat.lt_of_mul_lt_mul_left this (Rat.le_of_lt hw)
theorem in_cast {N c : Int} {x : Rat} (hx : In N x) : In N (x * (c : Rat)) := by
  obtain ⟨a, ha⟩ := hx
  exact ⟨a * c, by rw [Rat.intCast_mul, ← ha]; grind⟩
theorem fq_of {x : Rat} {N : Int} (d : Nat) (h : In N x) (h1 : -(1000000000 : Rat) ≤ x) (h2 : x ≤ 1000000000) (hN : 0 < N ∧ N < 2 ^ d := by decide) : Fq d x := in_fq d h hN.1 hN.2 (by grind) (by grind)
theorem int_q {n a b : Int} (h1 : a ≤ n) (h2 : n ≤ b) : (a : Rat) ≤ (n : Rat) ∧ (n : Rat) ≤ (b : Rat) := ⟨Rat.intCast_le_intCast.mpr h1, Rat.intCast_le_intCast.mpr h2⟩
theorem int_ne {n : Int} (h : n ≠ 0) : (n : Rat) ≠ 0 := fun z => h (Rat.intCast_inj.mp (show ((n : Int) : Rat) = ((0 : Int) : Rat) from z))
theorem int_pos {n : Int} (h : 0 < n) : (0 : Rat) < (n : Rat) := Rat.intCast_lt_intCast.mpr h
theorem low_div {x : Rat} {p : Int} (hp : 0 < p) : lowD x.num (x.den * p) = qD (x / p) := by
  have h0 := den_pos x
  have h1 := div_mul (p := x.num) h0
  rw [q_self] at h1
  have := int_ne (n := p) (by omega)
  rw [low_q (Int.mul_pos h0 hp), div_is (x := x / p) (Int.mul_pos h0 hp) (by rw [Rat.intCast_mul, ← h1]; grind)]
theorem in_over {N p : Int} {x : Rat} (hp : p ≠ 0) (h : In N x) : In (N * p) (x / p) := by
  obtain ⟨a, ha⟩ := h
  have := int_ne hp
  exact ⟨a, by rw [Rat.intCast_mul, ← ha]; grind⟩
theorem none_nil (l : List D) : l.filterMap (fun _ => (none : Option D)) = [] := by simp
/-- an int between the bounds, no bool -/
def isNum (d : D) (a b : Int) : Bool := match d with
  | .int i => decide (a ≤ i) && decide (i ≤ b)
  | _ => false
def sp_is_number : Fs := fun cs q _ => match cs with
  | [.fz d, .fz (.int a), .fz (.int b)] => q (.bool (isNum d a b))
  | _ => False
theorem ok_is_number (T : Txt K mg A) (B : Tbs mg base A) : FnOk P w K mg base (L2N.CX P w) 1 A.a_is_number A.d_is_number ["value", "least", "most"] (Spf K (LL A) sp_is_number) := by
  refine fn_flat T.f_is_number sc_is_number (by intro cs q r h; unfold sp_is_number at h; first | (obtain ⟨_, rfl, _⟩ := h; rfl) | (obtain ⟨_, _, rfl, _⟩ := h; rfl) | (obtain ⟨_, _, _, rfl, _⟩ := h; rfl) | (obtain ⟨_, _, _, _, rfl, _⟩ := h; rfl) | (obtain ⟨_, _, _, _, _, rfl, _⟩ := h; rfl) | (obtain ⟨_, _, _, _, _, _, rfl, _⟩ := h; rfl) | (obtain ⟨_, _, _, _, _, _, _, rfl, _⟩ := h; rfl) | (obtain ⟨_, _, _, _, _, _, _, _, rfl, _⟩ := h; rfl) | (obtain ⟨_, _, _, _, _, _, _, _, _, rfl, _⟩ := h; rfl) | (obtain ⟨_, _, _, _, _, _, _, _, _, _, rfl, _⟩ := h; rfl) | (obtain ⟨_, _, _, _, _, _, _, _, _, _, _, rfl, _⟩ := h; rfl) | (obtain ⟨_, _, _, _, _, _, _, _, _, _, _, _, rfl, _⟩ := h; rfl) | (split at h <;> first | rfl | exact h.elim)) (fun cdv hcd A' outer s H E hr tk po => ?_)
  have nd := sc_is_number.nd
  refine ⟨_, _, (fss_one (fs_ret (fe_andV (fe_isi isi_int T.n_isinstance bt_isinstance T.n_int (by decide +kernel) (fb_var 0)) (fe_andV (fe_not (fb_fe (fe_isi isi_bool T.n_isinstance bt_isinstance T.n_bool (by decide +kernel) (fb_var 0)))) (fe_one (fe_chain cmd_le cmd_le (fe_var 1) (fe_var 0) (fe_var 2))))))), ?_⟩
  clear hr tk po nd
  clear hcd
  intro cs q r h
  unfold sp_is_number at h
  split at h
  case h_2 => exact h.elim
  rename_i d a b
  cases d <;> walk_at "wp" <;> walk_at "sm" <;> (try exact h)
  refine ⟨fun z => ?_, fun z => ?_⟩ <;> simpa [isNum, z] using h
/-! ### clocks -/
def clockB (d : D) : Bool := match d with
  | .tuple [a, g] => isNum a 0 719 && isNum g (-60) 60
  | _ => false
def sp_is_dial_clock : Fs := fun cs q _ => match cs with
  | [.fz d] => q (.bool (clockB d))
  | _ => False
local macro_rules | `(tactic| walk_at "wp") => `(tactic| try dsimp only [u_seq, u_next, u_drop, u_ret, u_retO, u_ifS, u_asg, u_setO, u_par, u_par3, wDead, wDeadE, wIdxC, dEqS, dNeS, wRaise, wTry, wAPx, wIsX, wCallT, wListI, sufS, u_parO, u_par3O, u_parOc, u_aug, u_for, u_app, u_fix, u_gname, l_map1, l_map0, b_nt, b_nf, c_t, c_f, wVar, wVarB, wC, wOp, dI, dI0, dAdd, wNeg, wCmpV, wCmpT, dEq, dNe, dO, isNoneD, dIsN, dNotN, wAndT, wOrT, wNotT, truOk, truD, wTruT, wNotV, wAndV, wOrV, wIf, wChain, wBoolV, wIx, wNil, wCons, wTup, wLst, wN, wANil, wACons, wADr, wCall, wCallN, wgNil, wgCons, wgTup, wgLst, wSeqI, seqD, wRng1, wRng2, wRng3, wCal, dAbs, dMax2, dMin2, dInt1, wCalB, dLen, isIntD, isBoolD, isStrD, isTupD, isLstD, wIsi, wLRev, wListA, dTupA, startS, wO0, wO1, dSl, wSl, wSlN, wRepN, wRepT, dIn, dGcd, dIntsL, wStar, wSeti, wUnDr, wSetDr, spDraw, dBest, wSetL, wLc, wAll, wAny, wYes, stpAll, stpAny, u_wipe0, u_wipe1, u_lk0, u_lk1, lkC, spTake, List.getElem?_cons_zero, List.getElem?_cons_succ, List.getElem?_nil, List.set_cons_zero, List.set_cons_succ, List.length_cons, List.length_nil, List.replicate_succ, List.replicate_zero, List.cons_append, List.nil_append, Nat.reduceAdd, Nat.reduceSub, sp_is_number])
theorem ok_is_dial_clock (T : Txt K mg A) (B : Tbs mg base A) : FnOk P w K mg base (L2N.CX P w) 2 A.a_is_dial_clock A.d_is_dial_clock ["value"] (Spf K (LL A) sp_is_dial_clock) := by
  refine fn_flat T.f_is_dial_clock sc_is_dial_clock (by intro cs q r h; unfold sp_is_dial_clock at h; first | (obtain ⟨_, rfl, _⟩ := h; rfl) | (obtain ⟨_, _, rfl, _⟩ := h; rfl) | (obtain ⟨_, _, _, rfl, _⟩ := h; rfl) | (obtain ⟨_, _, _, _, rfl, _⟩ := h; rfl) | (obtain ⟨_, _, _, _, _, rfl, _⟩ := h; rfl) | (obtain ⟨_, _, _, _, _, _, rfl, _⟩ := h; rfl) | (obtain ⟨_, _, _, _, _, _, _, rfl, _⟩ := h; rfl) | (obtain ⟨_, _, _, _, _, _, _, _, rfl, _⟩ := h; rfl) | (obtain ⟨_, _, _, _, _, _, _, _, _, rfl, _⟩ := h; rfl) | (obtain ⟨_, _, _, _, _, _, _, _, _, _, rfl, _⟩ := h; rfl) | (obtain ⟨_, _, _, _, _, _, _, _, _, _, _, rfl, _⟩ := h; rfl) | (obtain ⟨_, _, _, _, _, _, _, _, _, _, _, _, rfl, _⟩ := h; rfl) | (split at h <;> first | rfl | exact h.elim)) (fun cdv hcd A' outer s H E hr tk po => ?_)
  have nd := sc_is_dial_clock.nd
  refine ⟨_, _, (fss_cons (fs_if (ft_w (fw_or (ft_not (ft_truth (fb_fe (fe_isi isi_tup T.n_isinstance bt_isinstance T.n_tuple (by decide +kernel) (fb_var 0))))) (fw_or (ft_cmp (cmd_ne hr) (fb_fe (fe_bi1 cal_len T.n_len PySem.boot_len (fb_var 0))) (fb_fe fe_int)) (fw_or1 (ft_not (ft_truth (fb_fe (fe_call (ok_is_number T B) (hr.mono (by decide)) tk rfl T.m_is_number T.f_is_number.kp T.b_is_number (fa_cons (fe_ix (fb_var 0) fe_int) (fa_cons fe_int (fa_cons (fe_sub (fe_glb T.g_DIAL) fe_int) fa_nil)))))))))))
  (fss_one (fs_ret fe_bl))
  fss_nil)
 (fss_one (fs_ret (fe_call (ok_is_number T B) (hr.mono (by decide)) tk rfl T.m_is_number T.f_is_number.kp T.b_is_number (fa_cons (fe_ix (fb_var 0) fe_int) (fa_cons (fe_neg (fe_glb T.g_MOST_GAIN)) (fa_cons (fe_glb T.g_MOST_GAIN) fa_nil))))))), ?_⟩
  clear hr tk po nd
  clear hcd
  intro cs q r h
  unfold sp_is_dial_clock at h
  split at h
  case h_2 => exact h.elim
  rename_i d
  cases d
  case tuple ds =>
    walk_at "wp"
    walk_at "sm"
    refine ⟨fun hl => ?_, fun hl => ?_⟩
    · obtain ⟨a, b, rfl⟩ : ∃ a b, ds = [a, b] := by
        have : ds.length = 2 := by omega
        match ds, this with
        | [a, b], _ => exact ⟨a, b, rfl⟩
      unfold clockB at h
      dsimp only at h
      refine ⟨a, atI_nat (j := 0) rfl, FL.cond_of (fun z => ⟨b, atI_nat (j := 1) rfl, ?_⟩) (fun z => ?_)⟩
      · rw [show ((720 : Int) - 1) = 719 from rfl] at z
        rw [z, Bool.true_and] at h
        exact h
      · rw [show ((720 : Int) - 1) = 719 from rfl] at z
        rw [z, Bool.false_and] at h
        exact h
    · have : clockB (.tuple ds) = false := by
        unfold clockB
        split
        · rename_i e
          cases e
          exact absurd rfl hl
        · rfl
      rw [this] at h; exact h
  all_goals
    walk_at "wp"
    walk_at "sm"
    exact h
/-- a clock that is right -/
def Ck (a g : Int) : Prop := 0 ≤ a ∧ a < 720 ∧ -60 ≤ g ∧ g ≤ 60
/-- a time -/
def Tm (t : Rat) : Prop := ∃ N : Int, In N t ∧ 0 < N ∧ N ≤ 120000000 ∧ -1 ≤ t ∧ t ≤ 100000
def ckD (a g : Int) : D := .tuple [.int a, .int g]
def sp_check_time (A : Ads) : Fs := fun cs q r => ∃ m : Rat, cs = [.fz (qD m)] ∧ cond (decide (m < 0)) (r (.ref A.x_OutOfRange)) (q .none)
theorem ok_check_time (T : Txt K mg A) (B : Tbs mg base A) : FnOk P w K mg base (L2N.CX P w) 1 A.a_check_time A.d_check_time ["time"] (Spf K (LL A) (sp_check_time A)) := by
  refine fn_flat T.f_check_time sc_check_time (by intro cs q r h; unfold sp_check_time at h; first | (obtain ⟨_, rfl, _⟩ := h; rfl) | (obtain ⟨_, _, rfl, _⟩ := h; rfl) | (obtain ⟨_, _, _, rfl, _⟩ := h; rfl) | (obtain ⟨_, _, _, _, rfl, _⟩ := h; rfl) | (obtain ⟨_, _, _, _, _, rfl, _⟩ := h; rfl) | (obtain ⟨_, _, _, _, _, _, rfl, _⟩ := h; rfl) | (obtain ⟨_, _, _, _, _, _, _, rfl, _⟩ := h; rfl) | (obtain ⟨_, _, _, _, _, _, _, _, rfl, _⟩ := h; rfl) | (obtain ⟨_, _, _, _, _, _, _, _, _, rfl, _⟩ := h; rfl) | (obtain ⟨_, _, _, _, _, _, _, _, _, _, rfl, _⟩ := h; rfl) | (obtain ⟨_, _, _, _, _, _, _, _, _, _, _, rfl, _⟩ := h; rfl) | (obtain ⟨_, _, _, _, _, _, _, _, _, _, _, _, rfl, _⟩ := h; rfl) | (split at h <;> first | rfl | exact h.elim)) (fun cdv hcd A' outer s H E hr tk po => ?_)
  have nd := sc_check_time.nd
  refine ⟨_, _, (fss_one (fs_if (ft_cmp cmd_lt (fb_fe (fe_ix (fb_var 0) fe_int)) (fb_fe fe_int))
  (fss_one (fs_raise tk T.x_OutOfRange))
  fss_nil)), ?_⟩
  clear hr tk po nd
  clear hcd
  rintro cs q r ⟨m, rfl, h⟩
  unfold qD
  walk_at "wp"
  rw [show decide (m < 0) = decide (m.num < 0) from decide_eq_decide.mpr num_neg.symm] at h
  exact ⟨_, rfl, h⟩
/-- not too large for a rest -/
def Md (x : Rat) : Prop := -(1000000000000 : Rat) ≤ x ∧ x ≤ 1000000000000
def sp_rest_by_dial : Fs := fun cs q _ => ∃ (x : Rat) (i : Nat), cs = [.fz (qD x)] ∧ (Fq i x ∧ i ≤ 60 ∧ Md x) ∧ q (qD (modQ x 720))
local macro_rules | `(tactic| walk_at "wp") => `(tactic| try dsimp only [u_seq, u_next, u_drop, u_ret, u_retO, u_ifS, u_asg, u_setO, u_par, u_par3, wDead, wDeadE, wIdxC, dEqS, dNeS, wRaise, wTry, wAPx, wIsX, wCallT, wListI, sufS, u_parO, u_par3O, u_parOc, u_aug, u_for, u_app, u_fix, u_gname, l_map1, l_map0, b_nt, b_nf, c_t, c_f, wVar, wVarB, wC, wOp, dI, dI0, dAdd, wNeg, wCmpV, wCmpT, dEq, dNe, dO, isNoneD, dIsN, dNotN, wAndT, wOrT, wNotT, truOk, truD, wTruT, wNotV, wAndV, wOrV, wIf, wChain, wBoolV, wIx, wNil, wCons, wTup, wLst, wN, wANil, wACons, wADr, wCall, wCallN, wgNil, wgCons, wgTup, wgLst, wSeqI, seqD, wRng1, wRng2, wRng3, wCal, dAbs, dMax2, dMin2, dInt1, wCalB, dLen, isIntD, isBoolD, isStrD, isTupD, isLstD, wIsi, wLRev, wListA, dTupA, startS, wO0, wO1, dSl, wSl, wSlN, wRepN, wRepT, dIn, dGcd, dIntsL, wStar, wSeti, wUnDr, wSetDr, spDraw, dBest, wSetL, wLc, wAll, wAny, wYes, stpAll, stpAny, u_wipe0, u_wipe1, u_lk0, u_lk1, lkC, spTake, List.getElem?_cons_zero, List.getElem?_cons_succ, List.getElem?_nil, List.set_cons_zero, List.set_cons_succ, List.length_cons, List.length_nil, List.replicate_succ, List.replicate_zero, List.cons_append, List.nil_append, Nat.reduceAdd, Nat.reduceSub, sp_minus])
theorem ok_rest_by_dial (T : Txt K mg A) (B : Tbs mg base A) : FnOk P w K mg base (L2N.CX P w) 3 A.a_rest_by_dial A.d_rest_by_dial ["value"] (Spf K (LL A) sp_rest_by_dial) := by
  refine fn_flat T.f_rest_by_dial sc_rest_by_dial (by intro cs q r h; unfold sp_rest_by_dial at h; first | (obtain ⟨_, rfl, _⟩ := h; rfl) | (obtain ⟨_, _, rfl, _⟩ := h; rfl) | (obtain ⟨_, _, _, rfl, _⟩ := h; rfl) | (obtain ⟨_, _, _, _, rfl, _⟩ := h; rfl) | (obtain ⟨_, _, _, _, _, rfl, _⟩ := h; rfl) | (obtain ⟨_, _, _, _, _, _, rfl, _⟩ := h; rfl) | (obtain ⟨_, _, _, _, _, _, _, rfl, _⟩ := h; rfl) | (obtain ⟨_, _, _, _, _, _, _, _, rfl, _⟩ := h; rfl) | (obtain ⟨_, _, _, _, _, _, _, _, _, rfl, _⟩ := h; rfl) | (obtain ⟨_, _, _, _, _, _, _, _, _, _, rfl, _⟩ := h; rfl) | (obtain ⟨_, _, _, _, _, _, _, _, _, _, _, rfl, _⟩ := h; rfl) | (obtain ⟨_, _, _, _, _, _, _, _, _, _, _, _, rfl, _⟩ := h; rfl) | (split at h <;> first | rfl | exact h.elim)) (fun cdv hcd A' outer s H E hr tk po => ?_)
  have nd := sc_rest_by_dial.nd
  refine ⟨_, _, (fss_cons (fs_set (i := 1) nd (fe_div (fe_ix (fb_var 0) fe_int) (fe_mul (fe_ix (fb_var 0) fe_int) (fe_glb T.g_DIAL))))
 (fss_one (fs_ret (fe_call (ok_minus T B) (hr.mono (by decide)) tk rfl T.m_minus T.f_minus.kp T.b_minus (fa_cons (fe_var 0) (fa_cons (fe_tup (fl_cons (fe_mul (fe_var 1) (fe_glb T.g_DIAL)) (fl_cons fe_int fl_nil))) fa_nil)))))), ?_⟩
  clear hr tk po nd
  clear hcd
  rintro cs q r ⟨x, i, rfl, ⟨hx, hi, hm⟩, h⟩
  have dk := den_k hx (by omega) (show (0 : Int) < 720 by decide) (by decide)
  unfold modQ at h
  obtain ⟨b1, b2, -⟩ := mod_b (x := x) (show (0 : Int) < 720 by decide)
  unfold modQ at b1 b2
  have e : ((720 : Int) : Rat) = 720 := rfl
  rw [e] at b2
  unfold Md at hm
  unfold qD at h ⊢
  walk_at "wp"
  walk_at "sm"
  exact ⟨mul_r (by decide) (by decide), ⟨dk.1, div_w (m := 81) (by omega) (by decide)⟩, mul_r (by decide) (by decide), by decide, x, ((x.num / (x.den * 720) * 720 : Int) : Rat), i, 1, rfl, ⟨hx, ⟨den_int, by grind, by grind⟩, by omega⟩, h⟩
theorem m720 (x : Rat) : 0 ≤ modQ x 720 ∧ modQ x 720 < 720 ∧ ∃ n : Int, modQ x 720 = x - (n : Rat) * 720 := mod_b (x := x) (k := 720) (by decide)
theorem u720 {x y : Rat} (n : Int) (h : y = x - (n : Rat) * 720) (h0 : 0 ≤ y) (h1 : y < 720) : modQ x 720 = y := mod_uniq (k := 720) (by decide) h h0 h1
theorem modc {x y : Rat} (n : Int) (h : x = y - (n : Rat) * 720) : modQ x 720 = modQ y 720 := by
  obtain ⟨h0, h1, m, e⟩ := m720 y
  refine u720 (m - n) ?_ h0 h1
  rw [Rat.intCast_sub]
  grind
def shQ (a g : Int) (t : Rat) : Rat := modQ ((a : Rat) + (1440 + (g : Rat)) * t) 720
theorem ck_q {a g : Int} (h : Ck a g) : (0 : Rat) ≤ a ∧ (a : Rat) ≤ 719 ∧ -60 ≤ (g : Rat) ∧ (g : Rat) ≤ 60 := by
  have h1 := int_q (n := a) (a := 0) (b := 719) h.1 (by have := h.2.1; omega)
  have h2 := int_q (n := g) (a := -60) (b := 60) h.2.2.1 h.2.2.2
  exact ⟨h1.1, h1.2, h2.1, h2.2⟩
theorem gt_b {g : Int} {t : Rat} (h1 : -60 ≤ (g : Rat)) (h2 : (g : Rat) ≤ 60) (t0 : -1 ≤ t) (t1 : t ≤ 100000) : -200000000 ≤ (1440 + (g : Rat)) * t ∧ (1440 + (g : Rat)) * t ≤ 200000000 := by
  have a1 := Rat.mul_le_mul_of_nonneg_left t1 (show 0 ≤ 1440 + (g : Rat) by grind)
  have a2 := Rat.mul_le_mul_of_nonneg_left t0 (show 0 ≤ 1440 + (g : Rat) by grind)
  constructor <;> grind
theorem in_gt {N g : Int} {t : Rat} (h : In N t) : In N ((1440 + (g : Rat)) * t) := by
  have := in_cast (c := 1440 + g) h
  rw [Rat.intCast_add, Rat.mul_comm] at this
  exact this
theorem in_sh {N a g : Int} {t : Rat} (h : In N t) : In N (shQ a g t) := in_mod (by decide) (in_add (in_int _ _) (in_gt h))
def sp_shown_at (A : Ads) : Fs := fun cs q r => ∃ (a g : Int) (t : Rat), cs = [.fz (ckD a g), .fz (qD t)] ∧ (Ck a g ∧ Tm t) ∧ cond (decide (t < 0)) (r (.ref A.x_OutOfRange)) (q (qD (shQ a g t)))
local macro_rules | `(tactic| walk_at "wp") => `(tactic| try dsimp only [u_seq, u_next, u_drop, u_ret, u_retO, u_ifS, u_asg, u_setO, u_par, u_par3, wDead, wDeadE, wIdxC, dEqS, dNeS, wRaise, wTry, wAPx, wIsX, wCallT, wListI, sufS, u_parO, u_par3O, u_parOc, u_aug, u_for, u_app, u_fix, u_gname, l_map1, l_map0, b_nt, b_nf, c_t, c_f, wVar, wVarB, wC, wOp, dI, dI0, dAdd, wNeg, wCmpV, wCmpT, dEq, dNe, dO, isNoneD, dIsN, dNotN, wAndT, wOrT, wNotT, truOk, truD, wTruT, wNotV, wAndV, wOrV, wIf, wChain, wBoolV, wIx, wNil, wCons, wTup, wLst, wN, wANil, wACons, wADr, wCall, wCallN, wgNil, wgCons, wgTup, wgLst, wSeqI, seqD, wRng1, wRng2, wRng3, wCal, dAbs, dMax2, dMin2, dInt1, wCalB, dLen, isIntD, isBoolD, isStrD, isTupD, isLstD, wIsi, wLRev, wListA, dTupA, startS, wO0, wO1, dSl, wSl, wSlN, wRepN, wRepT, dIn, dGcd, dIntsL, wStar, wSeti, wUnDr, wSetDr, spDraw, dBest, wSetL, wLc, wAll, wAny, wYes, stpAll, stpAny, u_wipe0, u_wipe1, u_lk0, u_lk1, lkC, spTake, List.getElem?_cons_zero, List.getElem?_cons_succ, List.getElem?_nil, List.set_cons_zero, List.set_cons_succ, List.length_cons, List.length_nil, List.replicate_succ, List.replicate_zero, List.cons_append, List.nil_append, Nat.reduceAdd, Nat.reduceSub, sp_check_time, sp_rest_by_dial, sp_plus, sp_times])
theorem ok_shown_at (T : Txt K mg A) (B : Tbs mg base A) : FnOk P w K mg base (L2N.CX P w) 4 A.a_shown_at A.d_shown_at ["clock", "time"] (Spf K (LL A) (sp_shown_at A)) := by
  refine fn_flat T.f_shown_at sc_shown_at (by intro cs q r h; unfold sp_shown_at at h; first | (obtain ⟨_, rfl, _⟩ := h; rfl) | (obtain ⟨_, _, rfl, _⟩ := h; rfl) | (obtain ⟨_, _, _, rfl, _⟩ := h; rfl) | (obtain ⟨_, _, _, _, rfl, _⟩ := h; rfl) | (obtain ⟨_, _, _, _, _, rfl, _⟩ := h; rfl) | (obtain ⟨_, _, _, _, _, _, rfl, _⟩ := h; rfl) | (obtain ⟨_, _, _, _, _, _, _, rfl, _⟩ := h; rfl) | (obtain ⟨_, _, _, _, _, _, _, _, rfl, _⟩ := h; rfl) | (obtain ⟨_, _, _, _, _, _, _, _, _, rfl, _⟩ := h; rfl) | (obtain ⟨_, _, _, _, _, _, _, _, _, _, rfl, _⟩ := h; rfl) | (obtain ⟨_, _, _, _, _, _, _, _, _, _, _, rfl, _⟩ := h; rfl) | (obtain ⟨_, _, _, _, _, _, _, _, _, _, _, _, rfl, _⟩ := h; rfl) | (split at h <;> first | rfl | exact h.elim)) (fun cdv hcd A' outer s H E hr tk po => ?_)
  have nd := sc_shown_at.nd
  refine ⟨_, _, (fss_cons (fs_expr (fe_call (ok_check_time T B) (hr.mono (by decide)) tk rfl T.m_check_time T.f_check_time.kp T.b_check_time (fa_cons (fe_var 1) fa_nil)))
 (fss_cons (fs_asg (fe_var 0) (fg_tup (n := 2) rfl (fgs_cons (fg_name (i := 2) nd) (fgs_cons (fg_name (i := 3) nd) fgs_nil))))
 (fss_one (fs_ret (fe_call (ok_rest_by_dial T B) (hr.mono (by decide)) tk rfl T.m_rest_by_dial T.f_rest_by_dial.kp T.b_rest_by_dial (fa_cons (fe_call (ok_plus T B) (hr.mono (by decide)) tk rfl T.m_plus T.f_plus.kp T.b_plus (fa_cons (fe_tup (fl_cons (fe_var 2) (fl_cons fe_int fl_nil))) (fa_cons (fe_call (ok_times T B) (hr.mono (by decide)) tk rfl T.m_times T.f_times.kp T.b_times (fa_cons (fe_tup (fl_cons (fe_add (fe_glb T.g_DAY) (fe_var 3)) (fl_cons fe_int fl_nil))) (fa_cons (fe_var 1) fa_nil))) fa_nil))) fa_nil)))))), ?_⟩
  clear hr tk po nd
  clear hcd
  rintro cs q r ⟨a, g, t, rfl, ⟨hc, N, hN, n0, n2, t0, t1⟩, h⟩
  have n1 : N < 2 ^ 29 := by omega
  obtain ⟨c1, c2, c3, c4⟩ := ck_q hc
  have gb := gt_b c3 c4 t0 t1
  unfold ckD
  walk_at "wp"
  refine ⟨t, rfl, FL.cond_of (fun z => by rw [z] at h; exact h) (fun z => ?_)⟩
  rw [z] at h
  have iy := in_gt (g := g) hN
  refine ⟨rfl, rfl, by decide, by decide, ((1440 + g : Int) : Rat), t, 1, 29, rfl, ⟨⟨den_int, by rw [Rat.intCast_add, show ((1440 : Int) : Rat) = 1440 from rfl]; grind, by rw [Rat.intCast_add, show ((1440 : Int) : Rat) = 1440 from rfl]; grind⟩, fq_of 29 hN (by grind) (by grind) ⟨n0, n1⟩, by decide⟩, (a : Rat), _, 1, 29, rfl, ⟨⟨den_int, by grind, by grind⟩, ?_, by decide⟩, _, 29, rfl, ⟨?_, by decide, ?_⟩, ?_⟩
  · rw [Rat.intCast_add, show ((1440 : Int) : Rat) = 1440 from rfl]
    exact fq_of 29 iy (by grind) (by grind) ⟨n0, n1⟩
  · rw [Rat.intCast_add, show ((1440 : Int) : Rat) = 1440 from rfl]
    exact fq_of 29 (in_add (in_int _ _) iy) (by grind) (by grind) ⟨n0, n1⟩
  · rw [Rat.intCast_add, show ((1440 : Int) : Rat) = 1440 from rfl]
    unfold Md
    constructor <;> grind
  · rw [Rat.intCast_add, show ((1440 : Int) : Rat) = 1440 from rfl]
    exact h
/-- when both show the same again: p the gain of one over the other, d how far ahead the other begins -/
def sameQ (p d : Int) (t : Rat) : Rat := if p < 0 then t + modQ ((p : Rat) * t - (d : Rat)) 720 / ((-p : Int) : Rat) else t + modQ ((d : Rat) - (p : Rat) * t) 720 / (p : Rat)
def againD (p d : Int) (t : Rat) : D := if p = 0 then (if d = 0 then qD t else .none) else qD (sameQ p d t)
theorem sh_diff (a g b h : Int) (t : Rat) : modQ (shQ b h t - shQ a g t) 720 = modQ (((b - a : Int) : Rat) - ((g - h : Int) : Rat) * t) 720 := by
  obtain ⟨-, -, n, e1⟩ := m720 ((a : Rat) + (1440 + (g : Rat)) * t)
  obtain ⟨-, -, m, e2⟩ := m720 ((b : Rat) + (1440 + (h : Rat)) * t)
  refine modc (m - n) ?_
  unfold shQ
  rw [e1, e2, Rat.intCast_sub, Rat.intCast_sub, Rat.intCast_sub]
  grind
theorem neg_mod (x : Rat) : modQ (0 - modQ x 720) 720 = modQ (-x) 720 := by
  obtain ⟨-, -, n, e⟩ := m720 x
  exact modc (-n) (by rw [e, Rat.intCast_neg]; grind)
theorem zero_mod {d : Int} (h1 : -720 < d) (h2 : d < 720) : modQ (d : Rat) 720 = 0 ↔ d = 0 := by
  constructor
  · intro z
    obtain ⟨-, -, n, e⟩ := m720 (d : Rat)
    rw [z] at e
    have : (d : Rat) = ((n * 720 : Int) : Rat) := by rw [Rat.intCast_mul, show ((720 : Int) : Rat) = 720 from rfl]; grind
    have := Rat.intCast_inj.mp this
    omega
  · intro z
    subst z
    exact u720 0 (by rw [show ((0 : Int) : Rat) = 0 from rfl]; grind) (by decide) (by decide)
theorem num_zero {x : Rat} : x.num = 0 ↔ x = 0 := Rat.num_eq_zero
theorem mod_zero_neg {x : Rat} (h : modQ x 720 = 0) : modQ (-x) 720 = 0 := by
  obtain ⟨-, -, n, e⟩ := m720 x
  rw [h] at e
  exact u720 (-n) (by rw [Rat.intCast_neg]; grind) (by decide) (by decide)
theorem same_at {p d : Int} {t : Rat} (h : modQ ((d : Rat) - (p : Rat) * t) 720 = 0) : sameQ p d t = t := by
  unfold sameQ
  split
  · have := mod_zero_neg h
    rw [show -((d : Rat) - (p : Rat) * t) = (p : Rat) * t - (d : Rat) by grind] at this
    rw [this]; grind
  · rw [h]; grind
theorem again_zero {p d : Int} {t : Rat} (hd : -720 < d ∧ d < 720) (h : modQ ((d : Rat) - (p : Rat) * t) 720 = 0) : againD p d t = qD t := by
  unfold againD
  split
  · rename_i z
    subst z
    rw [show (d : Rat) - ((0 : Int) : Rat) * t = (d : Rat) by rw [show ((0 : Int) : Rat) = 0 from rfl]; grind] at h
    rw [if_pos ((zero_mod hd.1 hd.2).mp h)]
  · rw [same_at h]
theorem again_none {d : Int} {t : Rat} (hd : -720 < d ∧ d < 720) (h : modQ ((d : Rat) - ((0 : Int) : Rat) * t) 720 ≠ 0) : againD 0 d t = .none := by
  rw [show (d : Rat) - ((0 : Int) : Rat) * t = (d : Rat) by rw [show ((0 : Int) : Rat) = 0 from rfl]; grind] at h
  unfold againD
  rw [if_pos rfl, if_neg (fun z => h ((zero_mod hd.1 hd.2).mpr z))]
theorem ck_diff {a g b h : Int} (hc : Ck a g) (hd : Ck b h) : (-720 < b - a ∧ b - a < 720) ∧ -120 ≤ g - h ∧ g - h ≤ 120 := by
  unfold Ck at hc hd
  omega
theorem gl {N p : Int} (n0 : 0 < N) (n1 : N ≤ 120000000) (p0 : 0 < p) (p1 : p ≤ 120) : 0 < N * p ∧ N * p < 2 ^ 34 := by
  refine ⟨Int.mul_pos n0 p0, ?_⟩
  have := Int.mul_le_mul_of_nonneg_left p1 (Int.le_of_lt n0)
  omega
theorem over_b {x : Rat} {p : Int} (hp : 0 < p) (h0 : 0 ≤ x) (h1 : x < 720) : 0 ≤ x / (p : Rat) ∧ x / (p : Rat) < 720 := by
  have pp := int_pos hp
  have p1 := (int_q (n := p) (a := 1) (b := p) (by omega) (Int.le_refl p)).1
  rw [show ((1 : Int) : Rat) = 1 from rfl] at p1
  have e : x / (p : Rat) * p = x := by grind
  constructor
  · refine Rat.not_lt.mp fun z => ?_
    have := Rat.mul_lt_mul_of_pos_right z pp
    grind
  · refine Rat.not_le.mp fun z => ?_
    have := Rat.mul_le_mul_of_nonneg_right z (Rat.le_of_lt pp)
    grind
def sp_same_again (A : Ads) : Fs := fun cs q r => ∃ (a g b h : Int) (t : Rat), cs = [.fz (ckD a g), .fz (ckD b h), .fz (qD t)] ∧ (Ck a g ∧ Ck b h ∧ Tm t) ∧ cond (decide (t < 0)) (r (.ref A.x_OutOfRange)) (q (againD (g - h) (b - a) t))
local macro_rules | `(tactic| walk_at "wp") => `(tactic| try dsimp only [u_seq, u_next, u_drop, u_ret, u_retO, u_ifS, u_asg, u_setO, u_par, u_par3, wDead, wDeadE, wIdxC, dEqS, dNeS, wRaise, wTry, wAPx, wIsX, wCallT, wListI, sufS, u_parO, u_par3O, u_parOc, u_aug, u_for, u_app, u_fix, u_gname, l_map1, l_map0, b_nt, b_nf, c_t, c_f, wVar, wVarB, wC, wOp, dI, dI0, dAdd, wNeg, wCmpV, wCmpT, dEq, dNe, dO, isNoneD, dIsN, dNotN, wAndT, wOrT, wNotT, truOk, truD, wTruT, wNotV, wAndV, wOrV, wIf, wChain, wBoolV, wIx, wNil, wCons, wTup, wLst, wN, wANil, wACons, wADr, wCall, wCallN, wgNil, wgCons, wgTup, wgLst, wSeqI, seqD, wRng1, wRng2, wRng3, wCal, dAbs, dMax2, dMin2, dInt1, wCalB, dLen, isIntD, isBoolD, isStrD, isTupD, isLstD, wIsi, wLRev, wListA, dTupA, startS, wO0, wO1, dSl, wSl, wSlN, wRepN, wRepT, dIn, dGcd, dIntsL, wStar, wSeti, wUnDr, wSetDr, spDraw, dBest, wSetL, wLc, wAll, wAny, wYes, stpAll, stpAny, u_wipe0, u_wipe1, u_lk0, u_lk1, lkC, spTake, List.getElem?_cons_zero, List.getElem?_cons_succ, List.getElem?_nil, List.set_cons_zero, List.set_cons_succ, List.length_cons, List.length_nil, List.replicate_succ, List.replicate_zero, List.cons_append, List.nil_append, Nat.reduceAdd, Nat.reduceSub, sp_check_time, sp_rest_by_dial, sp_plus, sp_minus, sp_lowest, sp_shown_at])
theorem ok_same_again (T : Txt K mg A) (B : Tbs mg base A) : FnOk P w K mg base (L2N.CX P w) 5 A.a_same_again A.d_same_again ["one", "other", "time"] (Spf K (LL A) (sp_same_again A)) := by
  refine fn_flat T.f_same_again sc_same_again (by intro cs q r h; unfold sp_same_again at h; first | (obtain ⟨_, rfl, _⟩ := h; rfl) | (obtain ⟨_, _, rfl, _⟩ := h; rfl) | (obtain ⟨_, _, _, rfl, _⟩ := h; rfl) | (obtain ⟨_, _, _, _, rfl, _⟩ := h; rfl) | (obtain ⟨_, _, _, _, _, rfl, _⟩ := h; rfl) | (obtain ⟨_, _, _, _, _, _, rfl, _⟩ := h; rfl) | (obtain ⟨_, _, _, _, _, _, _, rfl, _⟩ := h; rfl) | (obtain ⟨_, _, _, _, _, _, _, _, rfl, _⟩ := h; rfl) | (obtain ⟨_, _, _, _, _, _, _, _, _, rfl, _⟩ := h; rfl) | (obtain ⟨_, _, _, _, _, _, _, _, _, _, rfl, _⟩ := h; rfl) | (obtain ⟨_, _, _, _, _, _, _, _, _, _, _, rfl, _⟩ := h; rfl) | (obtain ⟨_, _, _, _, _, _, _, _, _, _, _, _, rfl, _⟩ := h; rfl) | (split at h <;> first | rfl | exact h.elim)) (fun cdv hcd A' outer s H E hr tk po => ?_)
  have nd := sc_same_again.nd
  refine ⟨_, _, (fss_cons (fs_expr (fe_call (ok_check_time T B) (hr.mono (by decide)) tk rfl T.m_check_time T.f_check_time.kp T.b_check_time (fa_cons (fe_var 2) fa_nil)))
 (fss_cons (fs_set (i := 3) nd (fe_sub (fe_ix (fb_var 0) fe_int) (fe_ix (fb_var 1) fe_int)))
 (fss_cons (fs_set (i := 4) nd (fe_call (ok_rest_by_dial T B) (hr.mono (by decide)) tk rfl T.m_rest_by_dial T.f_rest_by_dial.kp T.b_rest_by_dial (fa_cons (fe_call (ok_minus T B) (hr.mono (by decide)) tk rfl T.m_minus T.f_minus.kp T.b_minus (fa_cons (fe_call (ok_shown_at T B) (hr.mono (by decide)) tk rfl T.m_shown_at T.f_shown_at.kp T.b_shown_at (fa_cons (fe_var 1) (fa_cons (fe_var 2) fa_nil))) (fa_cons (fe_call (ok_shown_at T B) (hr.mono (by decide)) tk rfl T.m_shown_at T.f_shown_at.kp T.b_shown_at (fa_cons (fe_var 0) (fa_cons (fe_var 2) fa_nil))) fa_nil))) fa_nil)))
 (fss_cons (fs_if (ft_cmp cmd_lt (fb_var 3) (fb_fe fe_int))
  (fss_one (fs_par (i := 3) (j := 4) rfl nd (fl_cons (fe_neg (fe_var 3)) (fl_cons (fe_call (ok_rest_by_dial T B) (hr.mono (by decide)) tk rfl T.m_rest_by_dial T.f_rest_by_dial.kp T.b_rest_by_dial (fa_cons (fe_call (ok_minus T B) (hr.mono (by decide)) tk rfl T.m_minus T.f_minus.kp T.b_minus (fa_cons (fe_tup (fl_cons fe_int (fl_cons fe_int fl_nil))) (fa_cons (fe_var 4) fa_nil))) fa_nil)) fl_nil))))
  fss_nil)
 (fss_cons (fs_if (ft_cmp (cmd_eq hr) (fb_fe (fe_ix (fb_var 4) fe_int)) (fb_fe fe_int))
  (fss_one (fs_ret (fe_var 2)))
  fss_nil)
 (fss_cons (fs_if (ft_cmp (cmd_eq hr) (fb_var 3) (fb_fe fe_int))
  (fss_one (fs_ret fe_non))
  fss_nil)
 (fss_one (fs_ret (fe_call (ok_plus T B) (hr.mono (by decide)) tk rfl T.m_plus T.f_plus.kp T.b_plus (fa_cons (fe_var 2) (fa_cons (fe_call (ok_lowest T B) (hr.mono (by decide)) tk rfl T.m_lowest T.f_lowest.kp T.b_lowest (fa_cons (fe_ix (fb_var 4) fe_int) (fa_cons (fe_mul (fe_ix (fb_var 4) fe_int) (fe_var 3)) fa_nil))) fa_nil))))))))))), ?_⟩
  clear hr tk po nd
  clear hcd
  rintro cs q r ⟨a, g, b, h, t, rfl, ⟨hc, hd, ht⟩, hh⟩
  obtain ⟨N, hN, n0, n2, t0, t1⟩ := id ht
  have n1 : N < 2 ^ 29 := by omega
  obtain ⟨dd, p0, p1⟩ := ck_diff hc hd
  cases z : decide (t < 0)
  case true =>
    walk_at "wp"
    refine ⟨t, rfl, ?_⟩
    rw [z] at hh ⊢
    exact hh
  rw [z] at hh
  have hh : q (againD (g - h) (b - a) t) := hh
  refine seq_mid [.fz (ckD a g), .fz (ckD b h), .fz (qD t), .no, .no] (fun N hN => ?_) ?_
  · walk_at "wp"
    exact ⟨t, rfl, by rw [z]; exact hN⟩
  refine seq_mid [.fz (ckD a g), .fz (ckD b h), .fz (qD t), .fz (.int (g - h)), .no] (fun N hN => ?_) ?_
  · unfold ckD at *
    walk_at "wp"
    walk_at "sm"
    exact hN
  refine seq_mid [.fz (ckD a g), .fz (ckD b h), .fz (qD t), .fz (.int (g - h)), .fz (qD (modQ (((b - a : Int) : Rat) - ((g - h : Int) : Rat) * t) 720))] (fun M hM => ?_) ?_
  · walk_at "wp"
    obtain ⟨s0, s1, -⟩ := m720 ((a : Rat) + (1440 + (g : Rat)) * t)
    obtain ⟨r0, r1, -⟩ := m720 ((b : Rat) + (1440 + (h : Rat)) * t)
    change 0 ≤ shQ a g t at s0
    change shQ a g t < 720 at s1
    change 0 ≤ shQ b h t at r0
    change shQ b h t < 720 at r1
    refine ⟨b, h, t, rfl, ⟨hd, ht⟩, ?_⟩
    rw [z]
    refine ⟨a, g, t, rfl, ⟨hc, ht⟩, ?_⟩
    rw [z]
    refine ⟨_, _, 29, 29, rfl, ⟨fq_of 29 (in_sh hN) (by grind) (by grind) ⟨n0, n1⟩, fq_of 29 (in_sh hN) (by grind) (by grind) ⟨n0, n1⟩, by decide⟩, _, 29, rfl, ⟨fq_of 29 (in_sub (in_sh hN) (in_sh hN)) (by grind) (by grind) ⟨n0, n1⟩, by decide, ?_⟩, ?_⟩
    · unfold Md
      constructor <;> grind
    · rw [sh_diff]
      exact hM
  have ie : In N (modQ (((b - a : Int) : Rat) - ((g - h : Int) : Rat) * t) 720) := by
    refine in_mod (by decide) (in_sub (in_int _ _) ?_)
    rw [Rat.mul_comm]
    exact in_cast hN
  obtain ⟨e0, e1, -⟩ := m720 (((b - a : Int) : Rat) - ((g - h : Int) : Rat) * t)
  have key : ∀ (p : Int) (x : Rat), 0 < p → p ≤ 120 → In N x → 0 ≤ x → x < 720 → againD (g - h) (b - a) t = qD (t + x / (p : Rat)) → FL.MulOk (x.den : Int) p ∧ (0 < (x.den : Int) * p ∧ (x.den : Int) * p < 2 ^ 63) ∧ sp_plus [.fz (qD t), .fz (lowD x.num (x.den * p))] q r := by
    intro p x p0 p1 hx x0 x1 e
    have dl : (x.den : Int) ≤ N := in_den n0 hx
    have d0 := den_pos x
    have dp := gl d0 (show (x.den : Int) ≤ 120000000 by omega) p0 p1
    obtain ⟨q0, q1⟩ := over_b p0 x0 x1
    refine ⟨mul_r (by omega) (by omega), by omega, t, x / (p : Rat), 27, 34, by rw [low_div p0], ⟨fq_of 27 hN (by grind) (by grind) (by omega), fq_of 34 (in_over (by omega) hx) (by grind) (by grind) (gl n0 n2 p0 p1), by decide⟩, ?_⟩
    rw [← e]; exact hh
  by_cases pn : g - h < 0
  · have ne : -(((b - a : Int) : Rat) - ((g - h : Int) : Rat) * t) = ((g - h : Int) : Rat) * t - ((b - a : Int) : Rat) := by grind
    have ie2 : In N (modQ (((g - h : Int) : Rat) * t - ((b - a : Int) : Rat)) 720) := by
      refine in_mod (by decide) (in_sub ?_ (in_int _ _))
      rw [Rat.mul_comm]
      exact in_cast hN
    obtain ⟨f0, f1, -⟩ := m720 (((g - h : Int) : Rat) * t - ((b - a : Int) : Rat))
    refine seq_mid [.fz (ckD a g), .fz (ckD b h), .fz (qD t), .fz (.int (-(g - h))), .fz (qD (modQ (((g - h : Int) : Rat) * t - ((b - a : Int) : Rat)) 720))] (fun M hM => ?_) ?_
    · walk_at "wp"
      rw [decide_eq_true pn]
      refine FL.cond_t rfl ⟨by decide, 0, _, 1, 29, rfl, ⟨⟨by decide, by decide, by decide⟩, fq_of 29 ie (by grind) (by grind) ⟨n0, n1⟩, by decide⟩, _, 29, rfl, ⟨fq_of 29 (in_sub (by exact in_int N 0) ie) (by grind) (by grind) ⟨n0, n1⟩, by decide, by unfold Md; constructor <;> grind⟩, ?_⟩
      rw [neg_mod, ne]
      exact hM
    generalize hx : modQ (((g - h : Int) : Rat) * t - ((b - a : Int) : Rat)) 720 = x at *
    unfold qD
    walk_at "wp"
    walk_at "sm"
    refine ⟨fun z => ?_, fun z => ⟨fun z2 => absurd z2 (by omega), fun _ => ?_⟩⟩
    · have : modQ (((b - a : Int) : Rat) - ((g - h : Int) : Rat) * t) 720 = 0 := by
        have := mod_zero_neg (hx.trans (num_zero.mp z))
        rw [← ne] at this
        rw [show ∀ y : Rat, - -y = y from fun y => by grind] at this
        exact this
      rw [again_zero dd this] at hh
      exact hh
    · refine key (-(g - h)) x (by omega) (by omega) ie2 f0 f1 ?_
      unfold againD sameQ
      rw [if_neg (by omega), if_pos pn, hx]
  · refine seq_mid [.fz (ckD a g), .fz (ckD b h), .fz (qD t), .fz (.int (g - h)), .fz (qD (modQ (((b - a : Int) : Rat) - ((g - h : Int) : Rat) * t) 720))] (fun M hM => ?_) ?_
    · walk_at "wp"
      rw [decide_eq_false pn]
      exact hM
    generalize hx : modQ (((b - a : Int) : Rat) - ((g - h : Int) : Rat) * t) 720 = x at *
    unfold qD
    walk_at "wp"
    walk_at "sm"
    refine ⟨fun z => ?_, fun z => ⟨fun z2 => ?_, fun z2 => ?_⟩⟩
    · rw [again_zero dd (hx.trans (num_zero.mp z))] at hh
      exact hh
    · rw [z2] at hx hh
      rw [again_none dd (fun y => z (num_zero.mpr (hx.symm.trans y)))] at hh
      exact hh
    · refine key (g - h) x (by omega) (by omega) ie e0 e1 ?_
      unfold againD sameQ
      rw [if_neg (by omega), if_neg pn, hx]
def sp_right_again (A : Ads) : Fs := fun cs q r => ∃ (a g : Int) (t : Rat), cs = [.fz (ckD a g), .fz (qD t)] ∧ (Ck a g ∧ Tm t) ∧ cond (decide (t < 0)) (r (.ref A.x_OutOfRange)) (q (againD (g - 0) (0 - a) t))
local macro_rules | `(tactic| walk_at "wp") => `(tactic| try dsimp only [u_seq, u_next, u_drop, u_ret, u_retO, u_ifS, u_asg, u_setO, u_par, u_par3, wDead, wDeadE, wIdxC, dEqS, dNeS, wRaise, wTry, wAPx, wIsX, wCallT, wListI, sufS, u_parO, u_par3O, u_parOc, u_aug, u_for, u_app, u_fix, u_gname, l_map1, l_map0, b_nt, b_nf, c_t, c_f, wVar, wVarB, wC, wOp, dI, dI0, dAdd, wNeg, wCmpV, wCmpT, dEq, dNe, dO, isNoneD, dIsN, dNotN, wAndT, wOrT, wNotT, truOk, truD, wTruT, wNotV, wAndV, wOrV, wIf, wChain, wBoolV, wIx, wNil, wCons, wTup, wLst, wN, wANil, wACons, wADr, wCall, wCallN, wgNil, wgCons, wgTup, wgLst, wSeqI, seqD, wRng1, wRng2, wRng3, wCal, dAbs, dMax2, dMin2, dInt1, wCalB, dLen, isIntD, isBoolD, isStrD, isTupD, isLstD, wIsi, wLRev, wListA, dTupA, startS, wO0, wO1, dSl, wSl, wSlN, wRepN, wRepT, dIn, dGcd, dIntsL, wStar, wSeti, wUnDr, wSetDr, spDraw, dBest, wSetL, wLc, wAll, wAny, wYes, stpAll, stpAny, u_wipe0, u_wipe1, u_lk0, u_lk1, lkC, spTake, List.getElem?_cons_zero, List.getElem?_cons_succ, List.getElem?_nil, List.set_cons_zero, List.set_cons_succ, List.length_cons, List.length_nil, List.replicate_succ, List.replicate_zero, List.cons_append, List.nil_append, Nat.reduceAdd, Nat.reduceSub, sp_same_again])
theorem ok_right_again (T : Txt K mg A) (B : Tbs mg base A) : FnOk P w K mg base (L2N.CX P w) 6 A.a_right_again A.d_right_again ["clock", "time"] (Spf K (LL A) (sp_right_again A)) := by
  refine fn_flat T.f_right_again sc_right_again (by intro cs q r h; unfold sp_right_again at h; first | (obtain ⟨_, rfl, _⟩ := h; rfl) | (obtain ⟨_, _, rfl, _⟩ := h; rfl) | (obtain ⟨_, _, _, rfl, _⟩ := h; rfl) | (obtain ⟨_, _, _, _, rfl, _⟩ := h; rfl) | (obtain ⟨_, _, _, _, _, rfl, _⟩ := h; rfl) | (obtain ⟨_, _, _, _, _, _, rfl, _⟩ := h; rfl) | (obtain ⟨_, _, _, _, _, _, _, rfl, _⟩ := h; rfl) | (obtain ⟨_, _, _, _, _, _, _, _, rfl, _⟩ := h; rfl) | (obtain ⟨_, _, _, _, _, _, _, _, _, rfl, _⟩ := h; rfl) | (obtain ⟨_, _, _, _, _, _, _, _, _, _, rfl, _⟩ := h; rfl) | (obtain ⟨_, _, _, _, _, _, _, _, _, _, _, rfl, _⟩ := h; rfl) | (obtain ⟨_, _, _, _, _, _, _, _, _, _, _, _, rfl, _⟩ := h; rfl) | (split at h <;> first | rfl | exact h.elim)) (fun cdv hcd A' outer s H E hr tk po => ?_)
  have nd := sc_right_again.nd
  refine ⟨_, _, (fss_one (fs_ret (fe_call (ok_same_again T B) (hr.mono (by decide)) tk rfl T.m_same_again T.f_same_again.kp T.b_same_again (fa_cons (fe_var 0) (fa_cons (fe_glb T.g_RIGHT) (fa_cons (fe_var 1) fa_nil)))))), ?_⟩
  clear hr tk po nd
  clear hcd
  rintro cs q r ⟨a, g, t, rfl, ⟨hc, ht⟩, hh⟩
  walk_at "wp"
  exact ⟨a, g, 0, 0, t, rfl, ⟨hc, by unfold Ck; omega, ht⟩, hh⟩
theorem c1440 {g : Int} : ((1440 + g : Int) : Rat) = 1440 + (g : Rat) := by rw [Rat.intCast_add, show ((1440 : Int) : Rat) = 1440 from rfl]
def sp__law_shown : Fs := fun cs q _ => ∃ (a g : Int) (t : Rat), cs = [.fz (ckD a g), .fz (qD t)] ∧ (Ck a g ∧ Tm t) ∧ q (qD (shQ a g t))
local macro_rules | `(tactic| walk_at "wp") => `(tactic| try dsimp only [u_seq, u_next, u_drop, u_ret, u_retO, u_ifS, u_asg, u_setO, u_par, u_par3, wDead, wDeadE, wIdxC, dEqS, dNeS, wRaise, wTry, wAPx, wIsX, wCallT, wListI, sufS, u_parO, u_par3O, u_parOc, u_aug, u_for, u_app, u_fix, u_gname, l_map1, l_map0, b_nt, b_nf, c_t, c_f, wVar, wVarB, wC, wOp, dI, dI0, dAdd, wNeg, wCmpV, wCmpT, dEq, dNe, dO, isNoneD, dIsN, dNotN, wAndT, wOrT, wNotT, truOk, truD, wTruT, wNotV, wAndV, wOrV, wIf, wChain, wBoolV, wIx, wNil, wCons, wTup, wLst, wN, wANil, wACons, wADr, wCall, wCallN, wgNil, wgCons, wgTup, wgLst, wSeqI, seqD, wRng1, wRng2, wRng3, wCal, dAbs, dMax2, dMin2, dInt1, wCalB, dLen, isIntD, isBoolD, isStrD, isTupD, isLstD, wIsi, wLRev, wListA, dTupA, startS, wO0, wO1, dSl, wSl, wSlN, wRepN, wRepT, dIn, dGcd, dIntsL, wStar, wSeti, wUnDr, wSetDr, spDraw, dBest, wSetL, wLc, wAll, wAny, wYes, stpAll, stpAny, u_wipe0, u_wipe1, u_lk0, u_lk1, lkC, spTake, List.getElem?_cons_zero, List.getElem?_cons_succ, List.getElem?_nil, List.set_cons_zero, List.set_cons_succ, List.length_cons, List.length_nil, List.replicate_succ, List.replicate_zero, List.cons_append, List.nil_append, Nat.reduceAdd, Nat.reduceSub, sp__law_rest, sp__law_and, sp__law_by])
theorem ok__law_shown (T : Txt K mg A) (B : Tbs mg base A) : FnOk P w K mg base (L2N.CX P w) 5 A.a__law_shown A.d__law_shown ["clock", "time"] (Spf K (LL A) sp__law_shown) := by
  refine fn_flat T.f__law_shown sc__law_shown (by intro cs q r h; unfold sp__law_shown at h; first | (obtain ⟨_, rfl, _⟩ := h; rfl) | (obtain ⟨_, _, rfl, _⟩ := h; rfl) | (obtain ⟨_, _, _, rfl, _⟩ := h; rfl) | (obtain ⟨_, _, _, _, rfl, _⟩ := h; rfl) | (obtain ⟨_, _, _, _, _, rfl, _⟩ := h; rfl) | (obtain ⟨_, _, _, _, _, _, rfl, _⟩ := h; rfl) | (obtain ⟨_, _, _, _, _, _, _, rfl, _⟩ := h; rfl) | (obtain ⟨_, _, _, _, _, _, _, _, rfl, _⟩ := h; rfl) | (obtain ⟨_, _, _, _, _, _, _, _, _, rfl, _⟩ := h; rfl) | (obtain ⟨_, _, _, _, _, _, _, _, _, _, rfl, _⟩ := h; rfl) | (obtain ⟨_, _, _, _, _, _, _, _, _, _, _, rfl, _⟩ := h; rfl) | (obtain ⟨_, _, _, _, _, _, _, _, _, _, _, _, rfl, _⟩ := h; rfl) | (split at h <;> first | rfl | exact h.elim)) (fun cdv hcd A' outer s H E hr tk po => ?_)
  have nd := sc__law_shown.nd
  refine ⟨_, _, (fss_one (fs_ret (fe_call (ok__law_rest T B) (hr.mono (by decide)) tk rfl T.m__law_rest T.f__law_rest.kp T.b__law_rest (fa_cons (fe_call (ok__law_and T B) (hr.mono (by decide)) tk rfl T.m__law_and T.f__law_and.kp T.b__law_and (fa_cons (fe_tup (fl_cons (fe_ix (fb_var 0) fe_int) (fl_cons fe_int fl_nil))) (fa_cons (fe_call (ok__law_by T B) (hr.mono (by decide)) tk rfl T.m__law_by T.f__law_by.kp T.b__law_by (fa_cons (fe_tup (fl_cons (fe_add fe_int (fe_ix (fb_var 0) fe_int)) (fl_cons fe_int fl_nil))) (fa_cons (fe_var 1) fa_nil))) fa_nil))) (fa_cons fe_int fa_nil))))), ?_⟩
  clear hr tk po nd
  clear hcd
  rintro cs q r ⟨a, g, t, rfl, ⟨hc, N, hN, n0, n2, t0, t1⟩, h⟩
  have n1 : N < 2 ^ 29 := by omega
  obtain ⟨c1, c2, c3, c4⟩ := ck_q hc
  have gb := gt_b c3 c4 t0 t1
  have iy := in_gt (g := g) hN
  unfold ckD
  walk_at "wp"
  walk_at "sm"
  refine ⟨by decide, by decide, ((1440 + g : Int) : Rat), t, 1, 29, rfl, ⟨⟨den_int, by rw [c1440]; grind, by rw [c1440]; grind⟩, fq_of 29 hN (by grind) (by grind) ⟨n0, n1⟩, by decide⟩, (a : Rat), _, 1, 29, rfl, ⟨⟨den_int, by grind, by grind⟩, ?_, by decide⟩, _, 720, 29, rfl, ⟨?_, by decide, by decide, by decide⟩, ?_⟩
  · rw [c1440]
    exact fq_of 29 iy (by grind) (by grind) ⟨n0, n1⟩
  · rw [c1440]
    exact fq_of 29 (in_add (in_int _ _) iy) (by grind) (by grind) ⟨n0, n1⟩
  · rw [c1440]
    exact h
/-- the k-th time at which both show the same -/
def wQ (p d k : Int) : Rat := ((d + 720 * k : Int) : Rat) / (p : Rat)
theorem w_mul {p d k : Int} (hp : p ≠ 0) : wQ p d k * (p : Rat) = (d : Rat) + 720 * (k : Rat) := by
  have := int_ne hp
  unfold wQ
  rw [Rat.intCast_add, Rat.intCast_mul, show ((720 : Int) : Rat) = 720 from rfl]
  grind
theorem same_mul {p d : Int} (t : Rat) (hp : p ≠ 0) : ∃ k : Int, sameQ p d t = wQ p d k ∧ t ≤ sameQ p d t ∧ (0 < p → (d : Rat) + 720 * (k : Rat) < (p : Rat) * t + 720) ∧ (p < 0 → (p : Rat) * t < (d : Rat) + 720 * (k : Rat) + 720) := by
  have pn := int_ne hp
  by_cases h : p < 0
  · have pp := int_pos (n := -p) (by omega)
    obtain ⟨e0, e1, n, e⟩ := m720 ((p : Rat) * t - (d : Rat))
    have s : sameQ p d t = t + modQ ((p : Rat) * t - (d : Rat)) 720 / ((-p : Int) : Rat) := by unfold sameQ; rw [if_pos h]
    have o := over_b (p := -p) (by omega) e0 e1
    rw [Rat.intCast_neg] at s pp o
    have m : sameQ p d t * (p : Rat) = (d : Rat) + 720 * (n : Rat) := by rw [s, e]; grind
    refine ⟨n, ?_, by rw [s]; grind, fun z => absurd z (by omega), fun _ => ?_⟩
    · have := w_mul (d := d) (k := n) hp
      grind
    · grind
  · have pp := int_pos (n := p) (by omega)
    obtain ⟨e0, e1, n, e⟩ := m720 ((d : Rat) - (p : Rat) * t)
    have s : sameQ p d t = t + modQ ((d : Rat) - (p : Rat) * t) 720 / (p : Rat) := by unfold sameQ; rw [if_neg h]
    have o := over_b (p := p) (by omega) e0 e1
    have m : sameQ p d t * (p : Rat) = (d : Rat) + 720 * ((-n : Int) : Rat) := by rw [s, e, Rat.intCast_neg]; grind
    refine ⟨-n, ?_, by rw [s]; grind, fun _ => ?_, fun z => absurd z h⟩
    · have := w_mul (d := d) (k := -n) hp
      grind
    · rw [Rat.intCast_neg]; grind
/-- the first of them that is not before t -/
theorem same_least {p d : Int} {t : Rat} (hp : p ≠ 0) (k : Int) (h : t ≤ wQ p d k) : sameQ p d t ≤ wQ p d k := by
  obtain ⟨n, e, h1, h2, h3⟩ := same_mul (d := d) t hp
  rw [e]
  have w1 := w_mul (d := d) (k := k) hp
  have w2 := w_mul (d := d) (k := n) hp
  refine Rat.not_lt.mp fun z => ?_
  by_cases q : p < 0
  · have pp := int_pos (n := -p) (by omega)
    rw [Rat.intCast_neg] at pp
    have a1 := Rat.mul_lt_mul_of_pos_right z pp
    have a2 := Rat.mul_le_mul_of_nonneg_right h (Rat.le_of_lt pp)
    have b1 : (n : Rat) < (k : Rat) := by grind
    have b2 := (int_q (n := k) (a := n + 1) (b := k) (by have := Rat.intCast_lt_intCast.mp b1; omega) (Int.le_refl k)).1
    rw [Rat.intCast_add, show ((1 : Int) : Rat) = 1 from rfl] at b2
    have := h3 q
    grind
  · have pp := int_pos (n := p) (by omega)
    have a1 := Rat.mul_lt_mul_of_pos_right z pp
    have a2 := Rat.mul_le_mul_of_nonneg_right h (Rat.le_of_lt pp)
    have b1 : (k : Rat) < (n : Rat) := by grind
    have b2 := (int_q (n := n) (a := k + 1) (b := n) (by have := Rat.intCast_lt_intCast.mp b1; omega) (Int.le_refl n)).1
    rw [Rat.intCast_add, show ((1 : Int) : Rat) = 1 from rfl] at b2
    have := h2 (by omega)
    grind
/-- where it is looked for -/
theorem same_near {p d : Int} {t : Rat} (hp : p ≠ 0) (hd : -720 < d ∧ d < 720) {f : Int} (f0 : (f : Rat) * 720 ≤ (p : Rat) * t) (f1 : (p : Rat) * t < (f : Rat) * 720 + 720) : ∃ k : Int, f - 3 ≤ k ∧ k < f + 4 ∧ sameQ p d t = wQ p d k := by
  obtain ⟨n, e, h1, h2, h3⟩ := same_mul (d := d) t hp
  have d0 := (int_q (n := d) (a := -720) (b := 720) (by omega) (by omega))
  rw [show ((-720 : Int) : Rat) = -720 from rfl, show ((720 : Int) : Rat) = 720 from rfl] at d0
  have w2 := w_mul (d := d) (k := n) hp
  rw [e] at h1
  refine ⟨n, ?_, ?_, e⟩
  · refine Int.not_lt.mp fun z => ?_
    have b := (int_q (n := f) (a := n + 4) (b := f) (by omega) (Int.le_refl f)).1
    rw [Rat.intCast_add, show ((4 : Int) : Rat) = 4 from rfl] at b
    by_cases q : p < 0
    · have := h3 q
      grind
    · have pp := int_pos (n := p) (by omega)
      have a2 := Rat.mul_le_mul_of_nonneg_right h1 (Rat.le_of_lt pp)
      grind
  · refine Int.not_le.mp fun z => ?_
    have b := (int_q (n := n) (a := f + 4) (b := n) (by omega) (Int.le_refl n)).1
    rw [Rat.intCast_add, show ((4 : Int) : Rat) = 4 from rfl] at b
    by_cases q : p < 0
    · have pp := int_pos (n := -p) (by omega)
      rw [Rat.intCast_neg] at pp
      have a2 := Rat.mul_le_mul_of_nonneg_right h1 (Rat.le_of_lt pp)
      grind
    · have := h2 (by omega)
      grind
theorem quot_b {y B : Rat} {p : Int} (hp : p ≠ 0) (h1 : -B ≤ y * (p : Rat)) (h2 : y * (p : Rat) ≤ B) (hB : 0 ≤ B) : -B ≤ y ∧ y ≤ B := by
  have ab : ∀ z : Rat, z * (p : Rat) ≤ B → -B ≤ z * (p : Rat) → z ≤ B := by
    intro z h2 h1
    refine Rat.not_lt.mp fun hz => ?_
    by_cases q : p < 0
    · have p1 := (int_q (n := -p) (a := 1) (b := -p) (by omega) (Int.le_refl _)).1
      rw [show ((1 : Int) : Rat) = 1 from rfl, Rat.intCast_neg] at p1
      have := Rat.mul_le_mul_of_nonneg_left p1 (show 0 ≤ z by grind)
      grind
    · have p1 := (int_q (n := p) (a := 1) (b := p) (by omega) (Int.le_refl _)).1
      rw [show ((1 : Int) : Rat) = 1 from rfl] at p1
      have := Rat.mul_le_mul_of_nonneg_left p1 (show 0 ≤ z by grind)
      grind
  refine ⟨?_, ab y h2 h1⟩
  have := ab (-y) (by grind) (by grind)
  grind
theorem w_low {p d k : Int} : (0 < p → lowD ((d + 720 * k) * 1) p = qD (wQ p d k)) ∧ (p < 0 → lowD ((d + 720 * k) * -1) (-p) = qD (wQ p d k)) := by
  refine ⟨fun hp => ?_, fun hp => ?_⟩
  · have := w_mul (d := d) (k := k) (show p ≠ 0 by omega)
    rw [low_q hp, div_is hp (by rw [this, Int.mul_one, Rat.intCast_add, Rat.intCast_mul]; rfl)]
  · have := w_mul (d := d) (k := k) (show p ≠ 0 by omega)
    rw [low_q (by omega), div_is (x := wQ p d k) (by omega) (by rw [Rat.intCast_neg, Rat.mul_neg, this, Rat.intCast_mul, Rat.intCast_add, Rat.intCast_mul, show ((-1 : Int) : Rat) = -1 from rfl, show ((720 : Int) : Rat) = 720 from rfl]; grind)]
theorem w_in {p d k : Int} (hp : p ≠ 0) : In (if p < 0 then -p else p) (wQ p d k) := by
  have := w_mul (d := d) (k := k) hp
  split
  · exact ⟨-(d + 720 * k), by rw [Rat.intCast_neg, Rat.intCast_neg, Rat.intCast_add, Rat.intCast_mul, show ((720 : Int) : Rat) = 720 from rfl]; grind⟩
  · exact ⟨d + 720 * k, by rw [Rat.intCast_add, Rat.intCast_mul, show ((720 : Int) : Rat) = 720 from rfl]; grind⟩
theorem w_fq {p d k : Int} (hp : p ≠ 0) (h1 : -120 ≤ p) (h2 : p ≤ 120) (hd : -720 < d ∧ d < 720) (hk : -100000 ≤ k ∧ k ≤ 100000) : Fq 7 (wQ p d k) := by
  have b := quot_b (y := wQ p d k) (B := 100000000) hp (by
    have := (int_q (n := d + 720 * k) (a := -100000000) (b := 100000000) (by omega) (by omega)).1
    rw [w_mul hp]
    rw [Rat.intCast_add, Rat.intCast_mul] at this
    exact this) (by
    have := (int_q (n := d + 720 * k) (a := -100000000) (b := 100000000) (by omega) (by omega)).2
    rw [w_mul hp]
    rw [Rat.intCast_add, Rat.intCast_mul] at this
    exact this) (by decide)
  exact fq_of 7 (w_in hp) (by grind) (by grind) (by split <;> omega)
theorem diff_num (x y : Rat) : ∃ n m : Int, qD (x - y) = .tuple [.int n, .int m] ∧ (0 ≤ n ↔ y ≤ x) ∧ (n < 0 ↔ x < y) := by
  refine ⟨_, _, rfl, ?_, ?_⟩
  · rw [Rat.num_nonneg]
    constructor <;> intro h <;> grind
  · rw [num_neg]
    constructor <;> intro h <;> grind
def sp__law_again : Fs := fun cs q _ => ∃ (a g b h : Int) (t : Rat), cs = [.fz (ckD a g), .fz (ckD b h), .fz (qD t)] ∧ (Ck a g ∧ Ck b h ∧ Tm t) ∧ q (againD (g - h) (b - a) t)
local macro_rules | `(tactic| walk_at "wp") => `(tactic| try dsimp only [u_seq, u_next, u_drop, u_ret, u_retO, u_ifS, u_asg, u_setO, u_par, u_par3, wDead, wDeadE, wIdxC, dEqS, dNeS, wRaise, wTry, wAPx, wIsX, wCallT, wListI, sufS, u_parO, u_par3O, u_parOc, u_aug, u_for, u_app, u_fix, u_gname, l_map1, l_map0, b_nt, b_nf, c_t, c_f, wVar, wVarB, wC, wOp, dI, dI0, dAdd, wNeg, wCmpV, wCmpT, dEq, dNe, dO, isNoneD, dIsN, dNotN, wAndT, wOrT, wNotT, truOk, truD, wTruT, wNotV, wAndV, wOrV, wIf, wChain, wBoolV, wIx, wNil, wCons, wTup, wLst, wN, wANil, wACons, wADr, wCall, wCallN, wgNil, wgCons, wgTup, wgLst, wSeqI, seqD, wRng1, wRng2, wRng3, wCal, dAbs, dMax2, dMin2, dInt1, wCalB, dLen, isIntD, isBoolD, isStrD, isTupD, isLstD, wIsi, wLRev, wListA, dTupA, startS, wO0, wO1, dSl, wSl, wSlN, wRepN, wRepT, dIn, dGcd, dIntsL, wStar, wSeti, wUnDr, wSetDr, spDraw, dBest, wSetL, wLc, wAll, wAny, wYes, stpAll, stpAny, u_wipe0, u_wipe1, u_lk0, u_lk1, lkC, spTake, List.getElem?_cons_zero, List.getElem?_cons_succ, List.getElem?_nil, List.set_cons_zero, List.set_cons_succ, List.length_cons, List.length_nil, List.replicate_succ, List.replicate_zero, List.cons_append, List.nil_append, Nat.reduceAdd, Nat.reduceSub, sp__law_by, sp__law_made, sp__law_away])
theorem ok__law_again (T : Txt K mg A) (B : Tbs mg base A) : FnOk P w K mg base (L2N.CX P w) 5 A.a__law_again A.d__law_again ["one", "other", "time"] (Spf K (LL A) sp__law_again) := by
  refine fn_flat T.f__law_again sc__law_again (by intro cs q r h; unfold sp__law_again at h; first | (obtain ⟨_, rfl, _⟩ := h; rfl) | (obtain ⟨_, _, rfl, _⟩ := h; rfl) | (obtain ⟨_, _, _, rfl, _⟩ := h; rfl) | (obtain ⟨_, _, _, _, rfl, _⟩ := h; rfl) | (obtain ⟨_, _, _, _, _, rfl, _⟩ := h; rfl) | (obtain ⟨_, _, _, _, _, _, rfl, _⟩ := h; rfl) | (obtain ⟨_, _, _, _, _, _, _, rfl, _⟩ := h; rfl) | (obtain ⟨_, _, _, _, _, _, _, _, rfl, _⟩ := h; rfl) | (obtain ⟨_, _, _, _, _, _, _, _, _, rfl, _⟩ := h; rfl) | (obtain ⟨_, _, _, _, _, _, _, _, _, _, rfl, _⟩ := h; rfl) | (obtain ⟨_, _, _, _, _, _, _, _, _, _, _, rfl, _⟩ := h; rfl) | (obtain ⟨_, _, _, _, _, _, _, _, _, _, _, _, rfl, _⟩ := h; rfl) | (split at h <;> first | rfl | exact h.elim)) (fun cdv hcd A' outer s H E hr tk po => ?_)
  have nd := sc__law_again.nd
  refine ⟨_, _, (fss_cons (fs_set (i := 3) nd (fe_sub (fe_ix (fb_var 0) fe_int) (fe_ix (fb_var 1) fe_int)))
 (fss_cons (fs_if (ft_cmp (cmd_eq hr) (fb_var 3) (fb_fe fe_int))
  (fss_one (fs_ret (fe_if (ft_cmp (cmd_eq hr) (fb_fe (fe_ix (fb_var 0) fe_int)) (fb_fe (fe_ix (fb_var 1) fe_int))) (fe_var 2) fe_non)))
  fss_nil)
 (fss_cons (fs_set (i := 4) nd fe_non)
 (fss_cons (fs_set (i := 5) nd (fe_call (ok__law_by T B) (hr.mono (by decide)) tk rfl T.m__law_by T.f__law_by.kp T.b__law_by (fa_cons (fe_tup (fl_cons (fe_var 3) (fl_cons fe_int fl_nil))) (fa_cons (fe_var 2) fa_nil))))
 (fss_cons (fs_set (i := 6) nd (fe_div (fe_ix (fb_var 5) fe_int) (fe_mul (fe_ix (fb_var 5) fe_int) fe_int)))
 (fss_cons (fs_for po rfl (fi_rng2 T.n_range (fl_cons (fe_sub (fe_var 6) fe_int) (fl_cons (fe_add (fe_var 6) fe_int) fl_nil))) (fg_name (i := 7) nd)
  (fss_cons (fs_set (i := 8) nd (fe_call (ok__law_made T B) (hr.mono (by decide)) tk rfl T.m__law_made T.f__law_made.kp T.b__law_made (fa_cons (fe_mul (fe_add (fe_sub (fe_ix (fb_var 1) fe_int) (fe_ix (fb_var 0) fe_int)) (fe_mul fe_int (fe_var 7))) (fe_if (ft_cmp cmd_gt (fb_var 3) (fb_fe fe_int)) fe_int (fe_neg fe_int))) (fa_cons (fe_if (ft_cmp cmd_gt (fb_var 3) (fb_fe fe_int)) (fe_var 3) (fe_neg (fe_var 3))) fa_nil))))
 (fss_one (fs_if (ft_w (fw_and (ft_cmp cmd_ge (fb_fe (fe_ix (fb_fe (fe_call (ok__law_away T B) (hr.mono (by decide)) tk rfl T.m__law_away T.f__law_away.kp T.b__law_away (fa_cons (fe_var 8) (fa_cons (fe_var 2) fa_nil)))) fe_int)) (fb_fe fe_int)) (fw_and1 (ft_w (fw_or (ft_cmp cmd_is (fb_var 4) (fb_fe fe_non)) (fw_or1 (ft_cmp cmd_lt (fb_fe (fe_ix (fb_fe (fe_call (ok__law_away T B) (hr.mono (by decide)) tk rfl T.m__law_away T.f__law_away.kp T.b__law_away (fa_cons (fe_var 8) (fa_cons (fe_var 4) fa_nil)))) fe_int)) (fb_fe fe_int))))))))
  (fss_one (fs_set (i := 4) nd (fe_var 8)))
  fss_nil))))
 (fss_one (fs_ret (fe_var 4))))))))), ?_⟩
  clear hr tk po nd
  clear hcd
  rintro cs q r ⟨a, g, b, h, t, rfl, ⟨hc, hd, N, hN, n0, n2, t0, t1⟩, hh⟩
  have n1 : N < 2 ^ 29 := by omega
  obtain ⟨dd, p0, p1⟩ := ck_diff hc hd
  refine seq_mid [.fz (ckD a g), .fz (ckD b h), .fz (qD t), .fz (.int (g - h)), .no, .no, .no, .no, .no] (fun M hM => ?_) ?_
  · unfold ckD at *
    walk_at "wp"
    walk_at "sm"
    exact hM
  by_cases z : g - h = 0
  · unfold ckD at *
    walk_at "wp"
    walk_at "sm"
    refine ⟨fun _ => ?_, fun y => absurd z y⟩
    unfold againD at hh
    rw [if_pos z] at hh
    exact ⟨fun y => by rw [if_pos (by omega)] at hh; exact hh, fun y => by rw [if_neg (by omega)] at hh; exact hh⟩
  generalize hp : g - h = p at *
  obtain ⟨d, hdd⟩ : ∃ d, d = b - a := ⟨_, rfl⟩
  rw [← hdd] at hh dd
  have hh : q (qD (sameQ p d t)) := by unfold againD at hh; rwa [if_neg z] at hh
  have pb := int_q p0 p1
  rw [show ((-120 : Int) : Rat) = -120 from rfl, show ((120 : Int) : Rat) = 120 from rfl] at pb
  obtain ⟨f, hf⟩ : ∃ f : Int, f = ((p : Rat) * t).num / (((p : Rat) * t).den * 720) := ⟨_, rfl⟩
  obtain ⟨fl0, fl1, -⟩ := m720 ((p : Rat) * t)
  unfold modQ at fl0 fl1
  rw [← hf, Rat.intCast_mul, show ((720 : Int) : Rat) = 720 from rfl] at fl0 fl1
  have pt : -12000000 ≤ (p : Rat) * t ∧ (p : Rat) * t ≤ 12000000 := by
    have ab : ∀ z : Rat, -120 ≤ z → z ≤ 120 → z * t ≤ 12000000 := by
      intro z z0 z1
      by_cases s : 0 ≤ z
      · have := Rat.mul_le_mul_of_nonneg_left t1 s
        grind
      · have := Rat.mul_le_mul_of_nonneg_left (show (-t) ≤ 1 by grind) (show 0 ≤ -z by grind)
        have : (-z) * (-t) = z * t := by grind
        grind
    have a1 := ab p pb.1 pb.2
    have a2 := ab (-(p : Rat)) (by grind) (by grind)
    constructor <;> grind
  have fb : -20000 ≤ f ∧ f ≤ 20000 := by
    refine ⟨Rat.intCast_le_intCast.mp ?_, Rat.intCast_le_intCast.mp ?_⟩
    · rw [show ((-20000 : Int) : Rat) = -20000 from rfl]; grind
    · rw [show ((20000 : Int) : Rat) = 20000 from rfl]; grind
  have ft : Fq 29 t := fq_of 29 hN (by grind) (by grind) ⟨n0, n1⟩
  have fpt : Fq 29 ((p : Rat) * t) := by
    refine fq_of 29 (N := N) ?_ (by grind) (by grind) ⟨n0, n1⟩
    rw [Rat.mul_comm]
    exact in_cast hN
  refine seq_mid [.fz (ckD a g), .fz (ckD b h), .fz (qD t), .fz (.int p), .no, .no, .no, .no, .no] (fun M hM => ?_) ?_
  · walk_at "wp"
    walk_at "sm"
    exact ⟨fun y => absurd y z, fun _ => hM⟩
  refine seq_mid [.fz (ckD a g), .fz (ckD b h), .fz (qD t), .fz (.int p), .fz .none, .no, .no, .no, .no] (fun M hM => ?_) ?_
  · walk_at "wp"
    exact hM
  refine seq_mid [.fz (ckD a g), .fz (ckD b h), .fz (qD t), .fz (.int p), .fz .none, .fz (qD ((p : Rat) * t)), .no, .no, .no] (fun M hM => ?_) ?_
  · walk_at "wp"
    exact ⟨by decide, p, t, 1, 29, rfl, ⟨⟨den_int, by grind, by grind⟩, ft, by decide⟩, hM⟩
  refine seq_mid [.fz (ckD a g), .fz (ckD b h), .fz (qD t), .fz (.int p), .fz .none, .fz (qD ((p : Rat) * t)), .fz (.int f), .no, .no] (fun M hM => ?_) ?_
  · have dk := den_k fpt (by decide) (show (0 : Int) < 720 by decide) (by decide)
    unfold qD at *
    walk_at "wp"
    walk_at "sm"
    rw [hf] at hM
    exact ⟨mul_r (by decide) (by decide), ⟨dk.1, div_w (m := 81) (by omega) (by decide)⟩, hM⟩
  walk_at "wp"
  rw [show (f + 4 - (f - 3)).toNat = 7 by omega]
  refine ⟨⟨by omega, by omega⟩, ⟨by omega, by omega⟩, fun i s' => ∃ B x7 x8, s' = [.fz (ckD a g), .fz (ckD b h), .fz (qD t), .fz (.int p), .fz B, .fz (qD ((p : Rat) * t)), .fz (.int f), x7, x8] ∧ ((B = .none ∧ ∀ j : Nat, j < i → wQ p d (f - 3 + j) < t) ∨ ∃ j : Nat, j < i ∧ B = qD (wQ p d (f - 3 + j)) ∧ t ≤ wQ p d (f - 3 + j) ∧ ∀ j' : Nat, j' < i → t ≤ wQ p d (f - 3 + j') → wQ p d (f - 3 + j) ≤ wQ p d (f - 3 + j')), ⟨.none, _, _, rfl, .inl ⟨rfl, fun j hj => absurd hj (Nat.not_lt_zero j)⟩⟩, ?_, ?_⟩
  · rintro i e s' hi ⟨B, x7, x8, rfl, hB⟩
    obtain ⟨rfl, hi⟩ := rng_get hi
    dsimp only [u_gname, List.set_cons_zero, List.set_cons_succ]
    refine seq_mid [.fz (ckD a g), .fz (ckD b h), .fz (qD t), .fz (.int p), .fz B, .fz (qD ((p : Rat) * t)), .fz (.int f), .fz (.int (f - 3 + i)), .fz (qD (wQ p d (f - 3 + i)))] (fun M hM => ?_) ?_
    · unfold ckD at *
      walk_at "wp"
      walk_at "sm"
      rw [← hdd]
      have wl := w_low (p := p) (d := d) (k := f - 3 + i)
      exact ⟨mul_l (by decide) (by decide), fun y => ⟨mul_r (by decide) (by decide), fun _ => ⟨by omega, by rw [wl.1 y]; exact hM⟩, fun y1 => absurd y y1⟩, fun y => ⟨mul_r (by decide) (by decide), fun y1 => absurd y1 y, fun _ => ⟨by omega, by rw [wl.2 (by omega)]; exact hM⟩⟩⟩
    have fw := fun j : Nat => fun (hj : j < 7) => w_fq (d := d) (k := f - 3 + j) z p0 p1 dd (by omega)
    walk_at "wp"
    refine ⟨_, _, 7, 29, rfl, ⟨fw i (by omega), ft, by decide⟩, ?_⟩
    obtain ⟨n, m, e1, e2, e3⟩ := diff_num (wQ p d (f - 3 + i)) t
    rw [e1]
    rcases hB with ⟨rfl, hB⟩ | ⟨j, hj, rfl, hj1, hj2⟩
    · walk_at "wp"
      walk_at "sm"
      refine ⟨fun y => ⟨_, _, _, rfl, .inr ⟨i, by omega, rfl, e2.mp y, fun j' hj' hw => ?_⟩⟩, fun y => ⟨_, _, _, rfl, .inl ⟨rfl, fun j' hj' => ?_⟩⟩⟩
      · by_cases q : j' = i
        · subst q; exact Rat.le_refl
        · exact absurd hw (Rat.not_le.mpr (hB j' (by omega)))
      · by_cases q : j' = i
        · subst q; exact e3.mp (by omega)
        · exact hB j' (by omega)
    · obtain ⟨n', m', e1', e2', e3'⟩ := diff_num (wQ p d (f - 3 + i)) (wQ p d (f - 3 + j))
      have same : ¬ t ≤ wQ p d (f - 3 + i) → ∀ j' : Nat, j' < i + 1 → t ≤ wQ p d (f - 3 + j') → wQ p d (f - 3 + j) ≤ wQ p d (f - 3 + j') := fun y j' hj' hw => by
        by_cases q : j' = i
        · subst q; exact absurd hw y
        · exact hj2 j' (by omega) hw
      have less : ¬ wQ p d (f - 3 + i) < wQ p d (f - 3 + j) → ∀ j' : Nat, j' < i + 1 → t ≤ wQ p d (f - 3 + j') → wQ p d (f - 3 + j) ≤ wQ p d (f - 3 + j') := fun y j' hj' hw => by
        by_cases q : j' = i
        · subst q; exact Rat.not_lt.mp y
        · exact hj2 j' (by omega) hw
      walk_at "wp"
      walk_at "sm"
      refine ⟨fun y => ?_, fun y => ⟨_, _, _, rfl, .inr ⟨j, by omega, rfl, hj1, same fun y1 => y (e2.mpr y1)⟩⟩⟩
      refine FL.cond_f rfl ⟨_, _, 7, 7, rfl, ⟨fw i (by omega), fw j (by omega), by decide⟩, ?_⟩
      rw [e1']
      walk_at "wp"
      walk_at "sm"
      refine ⟨fun y2 => ⟨_, _, _, rfl, .inr ⟨i, by omega, rfl, e2.mp y, fun j' hj' hw => ?_⟩⟩, fun y2 => ⟨_, _, _, rfl, .inr ⟨j, by omega, rfl, hj1, less fun y3 => y2 (e3'.mpr y3)⟩⟩⟩
      by_cases q : j' = i
      · subst q; exact Rat.le_refl
      · exact Rat.le_trans (Rat.le_of_lt (e3'.mp y2)) (hj2 j' (by omega) hw)
  · rintro s' ⟨B, x7, x8, rfl, hB⟩
    walk_at "wp"
    rw [rng_len] at hB
    have : B = qD (sameQ p d t) := by
      obtain ⟨k, k0, k1, ke⟩ := same_near (t := t) z dd (f := f) (by grind) (by grind)
      obtain ⟨k', -, kt⟩ := same_mul (d := d) t z
      obtain ⟨j, rfl⟩ : ∃ j : Nat, k = f - 3 + j := ⟨(k - (f - 3)).toNat, by omega⟩
      rcases hB with ⟨rfl, hB⟩ | ⟨j1, hj, rfl, hj1, hj2⟩
      · have := hB j (by omega)
        rw [ke] at kt
        exact absurd kt.1 (Rat.not_le.mpr this)
      · have l1 := same_least z _ hj1
        rw [ke] at kt
        have l2 := hj2 j (by omega) kt.1
        rw [← ke] at l2
        rw [Rat.le_antisymm l1 l2]
    rw [this]
    exact hh
def sp__law_asked : Fs := fun cs q _ => ∃ (w a g b h : Int) (t : Rat), cs = [.fz (.int w), .fz (ckD a g), .fz (ckD b h), .fz (qD t)] ∧ (Ck a g ∧ Ck b h ∧ Tm t) ∧ q (cond (decide (t < 0)) (.str (Str.ofString "OutOfRange")) (if w = 0 then qD (shQ a g t) else if w = 1 then againD (g - h) (b - a) t else againD (g - 0) (0 - a) t))
local macro_rules | `(tactic| walk_at "wp") => `(tactic| try dsimp only [u_seq, u_next, u_drop, u_ret, u_retO, u_ifS, u_asg, u_setO, u_par, u_par3, wDead, wDeadE, wIdxC, dEqS, dNeS, wRaise, wTry, wAPx, wIsX, wCallT, wListI, sufS, u_parO, u_par3O, u_parOc, u_aug, u_for, u_app, u_fix, u_gname, l_map1, l_map0, b_nt, b_nf, c_t, c_f, wVar, wVarB, wC, wOp, dI, dI0, dAdd, wNeg, wCmpV, wCmpT, dEq, dNe, dO, isNoneD, dIsN, dNotN, wAndT, wOrT, wNotT, truOk, truD, wTruT, wNotV, wAndV, wOrV, wIf, wChain, wBoolV, wIx, wNil, wCons, wTup, wLst, wN, wANil, wACons, wADr, wCall, wCallN, wgNil, wgCons, wgTup, wgLst, wSeqI, seqD, wRng1, wRng2, wRng3, wCal, dAbs, dMax2, dMin2, dInt1, wCalB, dLen, isIntD, isBoolD, isStrD, isTupD, isLstD, wIsi, wLRev, wListA, dTupA, startS, wO0, wO1, dSl, wSl, wSlN, wRepN, wRepT, dIn, dGcd, dIntsL, wStar, wSeti, wUnDr, wSetDr, spDraw, dBest, wSetL, wLc, wAll, wAny, wYes, stpAll, stpAny, u_wipe0, u_wipe1, u_lk0, u_lk1, lkC, spTake, List.getElem?_cons_zero, List.getElem?_cons_succ, List.getElem?_nil, List.set_cons_zero, List.set_cons_succ, List.length_cons, List.length_nil, List.replicate_succ, List.replicate_zero, List.cons_append, List.nil_append, Nat.reduceAdd, Nat.reduceSub, sp_shown_at, sp_same_again, sp_right_again, sp__law_told])
theorem ok__law_asked (T : Txt K mg A) (B : Tbs mg base A) : FnOk P w K mg base (L2N.CX P w) 7 A.a__law_asked A.d__law_asked ["what", "clock", "other", "time"] (Spf K (LL A) sp__law_asked) := by
  refine fn_flat T.f__law_asked sc__law_asked (by intro cs q r h; unfold sp__law_asked at h; first | (obtain ⟨_, rfl, _⟩ := h; rfl) | (obtain ⟨_, _, rfl, _⟩ := h; rfl) | (obtain ⟨_, _, _, rfl, _⟩ := h; rfl) | (obtain ⟨_, _, _, _, rfl, _⟩ := h; rfl) | (obtain ⟨_, _, _, _, _, rfl, _⟩ := h; rfl) | (obtain ⟨_, _, _, _, _, _, rfl, _⟩ := h; rfl) | (obtain ⟨_, _, _, _, _, _, _, rfl, _⟩ := h; rfl) | (obtain ⟨_, _, _, _, _, _, _, _, rfl, _⟩ := h; rfl) | (obtain ⟨_, _, _, _, _, _, _, _, _, rfl, _⟩ := h; rfl) | (obtain ⟨_, _, _, _, _, _, _, _, _, _, rfl, _⟩ := h; rfl) | (obtain ⟨_, _, _, _, _, _, _, _, _, _, _, rfl, _⟩ := h; rfl) | (obtain ⟨_, _, _, _, _, _, _, _, _, _, _, _, rfl, _⟩ := h; rfl) | (split at h <;> first | rfl | exact h.elim)) (fun cdv hcd A' outer s H E hr tk po => ?_)
  have nd := sc__law_asked.nd
  refine ⟨_, _, (fss_one (fs_try (i := 4) (Ds := [A.x_OutOfRange]) (w2 := (fun _ a => wRet (wCallT (sp__law_told "OutOfRange" a) (wAPx 4 wANil)))) nd T.y_SkyError (fun D hD => by
 simp only [List.mem_cons, List.not_mem_nil, or_false] at hD
 subst hD
 · exact T.e_OutOfRange_SkyError
 ) tk (fun W' pn xe tk' po => ⟨_, (fss_cons (fs_if (ft_cmp (cmd_eq hr) (fb_var 0) (fb_fe fe_int))
  (fss_one (fs_ret (fe_call (ok_shown_at T B) (hr.mono (by decide)) tk' rfl T.m_shown_at T.f_shown_at.kp T.b_shown_at (fa_cons (fe_var 1) (fa_cons (fe_var 3) fa_nil)))))
  fss_nil)
 (fss_one (fs_ret (fe_if (ft_cmp (cmd_eq hr) (fb_var 0) (fb_fe fe_int)) (fe_call (ok_same_again T B) (hr.mono (by decide)) tk' rfl T.m_same_again T.f_same_again.kp T.b_same_again (fa_cons (fe_var 1) (fa_cons (fe_var 2) (fa_cons (fe_var 3) fa_nil)))) (fe_call (ok_right_again T B) (hr.mono (by decide)) tk' rfl T.m_right_again T.f_right_again.kp T.b_right_again (fa_cons (fe_var 1) (fa_cons (fe_var 3) fa_nil)))))))⟩) (fun D hD a oe pn hz hot => by
 simp only [List.mem_cons, List.not_mem_nil, or_false] at hD
 subst hD
 (apply Exists.intro; apply fss_one; apply fs_ret; exact fe_callT (q := (a, oe)) (w := sp__law_told "OutOfRange") (ok__law_told_OutOfRange T B) (room_mark (L2H.roomH_of (k := 1) (hr.mono (by decide))) _) List.mem_cons_self hot hz T.m__law_told T.f__law_told.kp T.b__law_told (by rintro cs Q R ⟨rfl, _⟩; rfl) (fa_px 4 fa_nil))))), ?_⟩
  clear hr tk po nd
  clear hcd
  rintro cs q r ⟨w, a, g, b, h, t, rfl, ⟨hc, hd, ht⟩, hh⟩
  walk_at "wp"
  walk_at "sm"
  refine ⟨fun z => ⟨a, g, t, rfl, ⟨hc, ht⟩, ?_⟩, fun z => ⟨fun z1 => ⟨a, g, b, h, t, rfl, ⟨hc, hd, ht⟩, ?_⟩, fun z1 => ⟨a, g, t, rfl, ⟨hc, ht⟩, ?_⟩⟩⟩
  · rw [if_pos z] at hh
    exact ⟨fun z => by rw [decide_eq_true z] at hh; exact exc_one fun a => ⟨rfl, hh⟩, fun z => by rw [decide_eq_false z] at hh; exact hh⟩
  · rw [if_neg z, if_pos z1] at hh
    exact ⟨fun z => by rw [decide_eq_true z] at hh; exact exc_one fun a => ⟨rfl, hh⟩, fun z => by rw [decide_eq_false z] at hh; exact hh⟩
  · rw [if_neg z, if_neg z1] at hh
    exact ⟨fun z => by rw [decide_eq_true z] at hh; exact exc_one fun a => ⟨rfl, hh⟩, fun z => by rw [decide_eq_false z] at hh; exact hh⟩
theorem sh_q {x : Rat} : Sh 1 (qD x) := sh_t fun d hd => by
  simp only [List.mem_cons, List.not_mem_nil, or_false] at hd
  rcases hd with rfl | rfl <;> exact sh_i
theorem ev_q {x y : Rat} : PyData.eqv (qD x) (qD y) = decide (x = y) := by
  by_cases h : x = y
  · rw [h, decide_eq_true rfl]
    exact SeqAt.eqv_refl _ sh_q.1
  · rw [decide_eq_false h]
    refine Bool.eq_false_iff.mpr fun z => h (q_inj.mp ?_)
    unfold qD at z ⊢
    rw [ev_t2, ev_ii, ev_ii] at z
    obtain ⟨z1, z2⟩ := Bool.and_eq_true_iff.mp z
    rw [of_decide_eq_true z1, of_decide_eq_true z2]
theorem sh_same {a g b h : Int} {t : Rat} : shQ a g t = shQ b h t ↔ modQ (((b - a : Int) : Rat) - ((g - h : Int) : Rat) * t) 720 = 0 := by
  obtain ⟨a0, a1, -⟩ := m720 ((a : Rat) + (1440 + (g : Rat)) * t)
  obtain ⟨b0, b1, -⟩ := m720 ((b : Rat) + (1440 + (h : Rat)) * t)
  change 0 ≤ shQ a g t at a0
  change shQ a g t < 720 at a1
  change 0 ≤ shQ b h t at b0
  change shQ b h t < 720 at b1
  rw [← sh_diff]
  constructor
  · intro z
    rw [z]
    exact u720 0 (by rw [show ((0 : Int) : Rat) = 0 from rfl]; grind) (by decide) (by decide)
  · intro z
    obtain ⟨-, -, n, e⟩ := m720 (shQ b h t - shQ a g t)
    rw [z] at e
    have x1 : modQ (shQ a g t) 720 = shQ a g t := u720 0 (by rw [show ((0 : Int) : Rat) = 0 from rfl]; grind) a0 a1
    have x2 : modQ (shQ a g t) 720 = shQ b h t := u720 (-n) (by rw [Rat.intCast_neg]; grind) b0 b1
    rw [← x1, x2]
theorem same_sym {p d : Int} {t : Rat} (hp : p ≠ 0) : sameQ (-p) (-d) t = sameQ p d t := by
  unfold sameQ
  by_cases q : p < 0
  · rw [if_neg (by omega), if_pos q, Rat.intCast_neg, Rat.intCast_neg, show (-(d : Rat) - -(p : Rat) * t) = (p : Rat) * t - (d : Rat) by grind]
  · rw [if_pos (by omega), if_neg q, Rat.intCast_neg, Rat.intCast_neg, show (-(p : Rat) * t - -(d : Rat)) = (d : Rat) - (p : Rat) * t by grind, show - -p = p by omega]
theorem again_sym {p d : Int} {t : Rat} : againD (-p) (-d) t = againD p d t := by
  unfold againD
  by_cases z : p = 0
  · subst z
    rw [if_pos (by decide), if_pos rfl]
    by_cases y : d = 0
    · rw [if_pos (by omega), if_pos y]
    · rw [if_neg (by omega), if_neg y]
  · rw [if_neg (by omega), if_neg z, same_sym z]
theorem sh_again {p d : Int} {t : Rat} : Sh 1 (againD p d t) := by
  unfold againD
  split
  · split
    · exact sh_q
    · exact sh_n
  · exact sh_q
theorem ag_same {p d : Int} {t : Rat} : PyData.eqv (againD p d t) (againD p d t) = true := ev_same sh_again
/-- what is found -/
theorem again_is {p d : Int} {t : Rat} (hd : -720 < d ∧ d < 720) : againD p d t = .none ∨ ∃ S, againD p d t = qD S ∧ t ≤ S ∧ S ≤ t + 720 ∧ modQ ((d : Rat) - (p : Rat) * S) 720 = 0 ∧ (S = t ↔ modQ ((d : Rat) - (p : Rat) * t) 720 = 0) ∧ (p = 0 ∧ S = t ∨ p ≠ 0 ∧ S = sameQ p d t ∧ ∃ k, S = wQ p d k) := by
  by_cases z : p = 0
  · subst z
    by_cases y : d = 0
    · subst y
      have e : modQ (((0 : Int) : Rat) - ((0 : Int) : Rat) * t) 720 = 0 := u720 0 (by rw [show ((0 : Int) : Rat) = 0 from rfl]; grind) (by decide) (by decide)
      exact .inr ⟨t, by unfold againD; rw [if_pos rfl, if_pos rfl], Rat.le_refl, by grind, e, ⟨fun _ => e, fun _ => rfl⟩, .inl ⟨rfl, rfl⟩⟩
    · exact .inl (by unfold againD; rw [if_pos rfl, if_neg y])
  · obtain ⟨k, ke, k0, -⟩ := same_mul (d := d) t z
    have w := w_mul (d := d) (k := k) z
    rw [← ke] at w
    have sb : sameQ p d t ≤ t + 720 ∧ (sameQ p d t = t → modQ ((d : Rat) - (p : Rat) * t) 720 = 0) := by
      unfold sameQ
      split
      · rename_i q
        obtain ⟨e0, e1, n, e⟩ := m720 ((p : Rat) * t - (d : Rat))
        have o := over_b (p := -p) (by omega) e0 e1
        refine ⟨by grind, fun y => ?_⟩
        have pn := int_ne (n := -p) (by omega)
        have : modQ ((p : Rat) * t - (d : Rat)) 720 = 0 := by grind
        have := mod_zero_neg this
        rwa [show -((p : Rat) * t - (d : Rat)) = (d : Rat) - (p : Rat) * t by grind] at this
      · rename_i q
        obtain ⟨e0, e1, n, e⟩ := m720 ((d : Rat) - (p : Rat) * t)
        have o := over_b (p := p) (by omega) e0 e1
        refine ⟨by grind, fun y => ?_⟩
        have pn := int_ne (n := p) (by omega)
        grind
    exact .inr ⟨sameQ p d t, by unfold againD; rw [if_neg z], k0, sb.1, u720 (-k) (by rw [Rat.intCast_neg]; grind) (by decide) (by decide), ⟨sb.2, fun y => same_at y⟩, .inr ⟨z, rfl, k, ke⟩⟩
/-- a little later -/
theorem same_next {p d : Int} {S e : Rat} (hp : p ≠ 0) (hb : -120 ≤ p ∧ p ≤ 120) (h : modQ ((d : Rat) - (p : Rat) * S) 720 = 0) (e0 : 0 < e) (e1 : e < 1) : sameQ p d (S + e) = S + 720 / ((if p < 0 then -p else p : Int) : Rat) := by
  obtain ⟨-, -, n, en⟩ := m720 ((d : Rat) - (p : Rat) * S)
  rw [h] at en
  unfold sameQ
  by_cases q : p < 0
  · have pp := int_pos (n := -p) (by omega)
    have pl := (int_q (n := -p) (a := 0) (b := 120) (by omega) (by omega)).2
    rw [show ((120 : Int) : Rat) = 120 from rfl] at pl
    have pe := Rat.mul_lt_mul_of_pos_right e1 pp
    have pe2 := Rat.mul_lt_mul_of_pos_right e0 pp
    have pn := int_ne (n := -p) (by omega)
    rw [if_pos q, if_pos q]
    rw [show modQ ((p : Rat) * (S + e) - (d : Rat)) 720 = 720 - ((-p : Int) : Rat) * e from u720 (-n - 1) (by rw [Rat.intCast_sub, Rat.intCast_neg, Rat.intCast_neg, show ((1 : Int) : Rat) = 1 from rfl]; grind) (by grind) (by grind)]
    grind
  · have pp := int_pos (n := p) (by omega)
    have pl := (int_q (n := p) (a := 0) (b := 120) (by omega) (by omega)).2
    rw [show ((120 : Int) : Rat) = 120 from rfl] at pl
    have pe := Rat.mul_lt_mul_of_pos_right e1 pp
    have pe2 := Rat.mul_lt_mul_of_pos_right e0 pp
    have pn := int_ne (n := p) (by omega)
    rw [if_neg q, if_neg q]
    rw [show modQ ((d : Rat) - (p : Rat) * (S + e)) 720 = 720 - (p : Rat) * e from u720 (n - 1) (by rw [Rat.intCast_sub, show ((1 : Int) : Rat) = 1 from rfl]; grind) (by grind) (by grind)]
    grind
theorem pos_ok {m : Rat} (h : 0 ≤ m) : decide (m < 0) = false := decide_eq_false (Rat.not_lt.mpr h)
section
variable {a g b h : Int} {t : Rat} {q : D → Prop} {r : Value → Prop}
theorem ask_0 (hc : Ck a g) (hd : Ck b h) (ht : Tm t) (t0 : 0 ≤ t) (k : q (qD (shQ a g t))) : sp__law_asked [.fz (.int 0), .fz (ckD a g), .fz (ckD b h), .fz (qD t)] q r := ⟨0, a, g, b, h, t, rfl, ⟨hc, hd, ht⟩, by rw [pos_ok t0]; exact k⟩
theorem ask_1 (hc : Ck a g) (hd : Ck b h) (ht : Tm t) (t0 : 0 ≤ t) (k : q (againD (g - h) (b - a) t)) : sp__law_asked [.fz (.int 1), .fz (ckD a g), .fz (ckD b h), .fz (qD t)] q r := ⟨1, a, g, b, h, t, rfl, ⟨hc, hd, ht⟩, by rw [pos_ok t0]; exact k⟩
theorem ask_2 (hc : Ck a g) (hd : Ck b h) (ht : Tm t) (t0 : 0 ≤ t) (k : q (againD (g - 0) (0 - a) t)) : sp__law_asked [.fz (.int 2), .fz (ckD a g), .fz (ckD b h), .fz (qD t)] q r := ⟨2, a, g, b, h, t, rfl, ⟨hc, hd, ht⟩, by rw [pos_ok t0]; exact k⟩
theorem ask_N {w : Int} (hc : Ck a g) (hd : Ck b h) (k : q (.str (Str.ofString "OutOfRange"))) : sp__law_asked [.fz (.int w), .fz (ckD a g), .fz (ckD b h), .fz (.tuple [.int (-1), .int 3])] q r := by
  refine ⟨w, a, g, b, h, -(1 / 3), by rw [q_tup (x := -(1 / 3)) (by decide) (by decide) (by grind)], ⟨hc, hd, 3, ⟨-1, by grind⟩, by decide, by decide, by grind, by grind⟩, ?_⟩
  rw [decide_eq_true (show (-(1 / 3) : Rat) < 0 by grind)]
  exact k
theorem shown_ok (hc : Ck a g) (ht : Tm t) (k : q (qD (shQ a g t))) : sp__law_shown [.fz (ckD a g), .fz (qD t)] q r := ⟨a, g, t, rfl, ⟨hc, ht⟩, k⟩
theorem again_ok (hc : Ck a g) (hd : Ck b h) (ht : Tm t) (k : q (againD (g - h) (b - a) t)) : sp__law_again [.fz (ckD a g), .fz (ckD b h), .fz (qD t)] q r := ⟨a, g, b, h, t, rfl, ⟨hc, hd, ht⟩, k⟩
theorem and_ok {x y : Rat} {i j : Nat} (hx : Fq i x) (hy : Fq j y) (hij : i + j ≤ 61) (k : q (qD (x + y))) : sp__law_and [.fz (qD x), .fz (qD y)] q r := ⟨x, y, i, j, rfl, ⟨hx, hy, hij⟩, k⟩
theorem ck_in (hc : Ck a g) : clockB (ckD a g) = true := by
  unfold clockB ckD isNum
  simp only [Bool.and_eq_true, decide_eq_true_eq]
  unfold Ck at hc
  omega
end
local macro_rules | `(tactic| walk_at "wp") => `(tactic| try dsimp only [u_seq, u_next, u_drop, u_ret, u_retO, u_ifS, u_asg, u_setO, u_par, u_par3, wDead, wDeadE, wIdxC, dEqS, dNeS, wRaise, wTry, wAPx, wIsX, wCallT, wListI, sufS, u_parO, u_par3O, u_parOc, u_aug, u_for, u_app, u_fix, u_gname, l_map1, l_map0, b_nt, b_nf, c_t, c_f, wVar, wVarB, wC, wOp, dI, dI0, dAdd, wNeg, wCmpV, wCmpT, dEq, dNe, dO, isNoneD, dIsN, dNotN, wAndT, wOrT, wNotT, truOk, truD, wTruT, wNotV, wAndV, wOrV, wIf, wChain, wBoolV, wIx, wNil, wCons, wTup, wLst, wN, wANil, wACons, wADr, wCall, wCallN, wgNil, wgCons, wgTup, wgLst, wSeqI, seqD, wRng1, wRng2, wRng3, wCal, dAbs, dMax2, dMin2, dInt1, wCalB, dLen, isIntD, isBoolD, isStrD, isTupD, isLstD, wIsi, wLRev, wListA, dTupA, startS, wO0, wO1, dSl, wSl, wSlN, wRepN, wRepT, dIn, dGcd, dIntsL, wStar, wSeti, wUnDr, wSetDr, spDraw, dBest, wSetL, wLc, wAll, wAny, wYes, stpAll, stpAny, u_wipe0, u_wipe1, u_lk0, u_lk1, lkC, spTake, List.getElem?_cons_zero, List.getElem?_cons_succ, List.getElem?_nil, List.set_cons_zero, List.set_cons_succ, List.length_cons, List.length_nil, List.replicate_succ, List.replicate_zero, List.cons_append, List.nil_append, Nat.reduceAdd, Nat.reduceSub, sp__law_open, sp__law_draw, sp_is_dial_clock])
theorem ok_law (T : Txt K mg A) (B : Tbs mg base A) : FnOk P w K mg base (L2N.CX P w) 8 A.a_law A.d_law ["script"] (spLaw K (LL A)) := by
  refine fn_law (i := 1) T.f_law sc_law rfl (fun cdv hcd A' outer s H E hr tk po => ?_)
  have nd := sc_law.nd
  refine ⟨_, _, _, _, FS.pe (L := LL A) (W := fun cls d _ H => E cls d H) (fs_own (i := 1) nd (fn_call (ok__law_open T B) (hr.mono (by decide)) tk rfl T.m__law_open T.f__law_open.kp T.b__law_open (fa_cons (fe_var 0) fa_nil))), (fn_call (ok__law_open T B) (hr.mono (by decide)) tk rfl T.m__law_open T.f__law_open.kp T.b__law_open (fa_cons (fe_var 0) fa_nil)),
 (fss_cons (fs_set (i := 2) nd (fe_ix (fb_fe (fe_n (fn_lst (fl_cons fe_int (fl_cons fe_int (fl_cons fe_int fl_nil)))))) (fe_call (ok__law_draw T B) (hr.mono (by decide)) tk rfl T.m__law_draw T.f__law_draw.kp T.b__law_draw (fa_dr 1 (fa_cons fe_int fa_nil)))))
 (fss_cons (fs_asg (fe_n (fn_lc (own := [("k", 10)]) rfl nd (fi_rng1 T.n_range (fl_cons fe_int fl_nil)) (blkOk_by (by kernel_rfl)) (fun s H C cl fp => (by apply FGc.cast; (case h => exact (fc_name (i := 10) nd (by decide))); (case q => (try dsimp only [FLG.gbx, Cx.blk, FLH.blkH]) <;> exact rfl))) (fun s H C cl fp => (by apply FTs.cast; (case h => exact fts_nil); (case q => (try dsimp only [FLG.gbx, Cx.blk, FLH.blkH]) <;> exact rfl))) (fun s H C cl fp => (by apply FE.cast; (case h => exact (fe_tup (fl_cons (fe_call (ok__law_draw T B) (hr.mono (by decide)) (takes_wf) rfl T.m__law_draw T.f__law_draw.kp T.b__law_draw (fa_dr 1 (fa_cons (fe_ix (fb_fe (fe_n (fn_lst (fl_cons fe_int (fl_cons fe_int fl_nil))))) (fe_call (ok__law_draw T B) (hr.mono (by decide)) (takes_wf) rfl T.m__law_draw T.f__law_draw.kp T.b__law_draw (fa_dr 1 (fa_cons fe_int fa_nil)))) fa_nil))) (fl_cons (fe_sub (fe_call (ok__law_draw T B) (hr.mono (by decide)) (takes_wf) rfl T.m__law_draw T.f__law_draw.kp T.b__law_draw (fa_dr 1 (fa_cons (fe_add (fe_mul fe_int (fe_var 2)) fe_int) fa_nil))) (fe_var 2)) fl_nil)))); (case q => (try dsimp only [FLG.gbx, Cx.blk, FLH.blkH]) <;> exact rfl))))) (fg_lst (n := 2) rfl (fgs_cons (fg_name (i := 5) nd) (fgs_cons (fg_name (i := 6) nd) fgs_nil))))
 (fss_cons (fs_if (ft_cmp (cmd_eq hr) (fb_fe (fe_call (ok__law_draw T B) (hr.mono (by decide)) tk rfl T.m__law_draw T.f__law_draw.kp T.b__law_draw (fa_dr 1 (fa_cons fe_int fa_nil)))) (fb_fe fe_int))
  (fss_one (fs_set (i := 6) nd (fe_tup (fl_cons (fe_if (ft_cmp (cmd_eq hr) (fb_fe (fe_call (ok__law_draw T B) (hr.mono (by decide)) tk rfl T.m__law_draw T.f__law_draw.kp T.b__law_draw (fa_dr 1 (fa_cons fe_int fa_nil)))) (fb_fe fe_int)) (fe_ix (fb_var 5) fe_int) (fe_ix (fb_var 6) fe_int)) (fl_cons (fe_ix (fb_var 5) fe_int) fl_nil)))))
  fss_nil)
 (fss_cons (fs_set (i := 3) nd (fe_n (fn_lst (fl_cons fe_non (fl_cons (fe_tup (fl_cons fe_int fl_nil)) (fl_cons (fe_n (fn_list T.n_list (fb_var 5))) (fl_cons (fe_add (fe_var 5) (fe_tup (fl_cons fe_int fl_nil))) (fl_cons (fe_tup (fl_cons (fe_neg fe_int) (fl_cons fe_int fl_nil))) (fl_cons (fe_tup (fl_cons fe_int (fl_cons fe_int fl_nil))) (fl_cons (fe_tup (fl_cons fe_int (fl_cons fe_int fl_nil))) (fl_cons (fe_tup (fl_cons fe_int (fl_cons (fe_neg fe_int) fl_nil))) (fl_cons (fe_tup (fl_cons fe_bl (fl_cons fe_int fl_nil))) (fl_cons (fe_tup (fl_cons fe_int (fl_cons fe_non fl_nil))) (fl_cons fe_int fl_nil))))))))))))))
 (fss_cons (fs_if (ft_w (fw_or (ft_cmp cmd_isnot (fb_fe (fe_call (ok_is_dial_clock T B) (hr.mono (by decide)) tk rfl T.m_is_dial_clock T.f_is_dial_clock.kp T.b_is_dial_clock (fa_cons (fe_var 5) fa_nil))) (fb_fe fe_bl)) (fw_or (ft_cmp cmd_isnot (fb_fe (fe_call (ok_is_dial_clock T B) (hr.mono (by decide)) tk rfl T.m_is_dial_clock T.f_is_dial_clock.kp T.b_is_dial_clock (fa_cons (fe_tup (fl_cons fe_int (fl_cons (fe_neg fe_int) fl_nil))) fa_nil))) (fb_fe fe_bl)) (fw_or1 (ft_cmp (cmd_ne hr) (fb_fe (fe_n (fn_lc (own := [("value", 13)]) rfl nd (fi_seq (fe_var 3)) (blkOk_by (by kernel_rfl)) (fun s H C cl fp => (by apply FGc.cast; (case h => exact (fc_name (i := 13) nd (by decide))); (case q => (try dsimp only [FLG.gbx, Cx.blk, FLH.blkH]) <;> exact rfl))) (fun s H C cl fp => (by apply FTs.cast; (case h => exact (fts_one (ft_cmp cmd_isnot (fb_fe (fe_call (ok_is_dial_clock T B) (hr.mono (by decide)) (takes_wf) rfl T.m_is_dial_clock T.f_is_dial_clock.kp T.b_is_dial_clock (fa_cons (fe_var 13) fa_nil))) (fb_fe fe_bl)))); (case q => (try dsimp only [FLG.gbx, Cx.blk, FLH.blkH]) <;> exact rfl))) (fun s H C cl fp => (by apply FE.cast; (case h => exact (fe_var 13)); (case q => (try dsimp only [FLG.gbx, Cx.blk, FLH.blkH]) <;> exact rfl)))))) (fb_fe (fe_n (fn_lst fl_nil))))))))
  (fss_one (fs_ret fe_bl))
  fss_nil)
 (fss_cons (fs_for po rfl (fi_rng1 T.n_range (fl_cons fe_int fl_nil)) (fg_name (i := 4) nd)
  (fss_cons (fs_set (i := 7) nd (fe_add fe_int (fe_call (ok__law_draw T B) (hr.mono (by decide)) tk rfl T.m__law_draw T.f__law_draw.kp T.b__law_draw (fa_dr 1 (fa_cons fe_int fa_nil)))))
 (fss_cons (fs_set (i := 8) nd (fe_call (ok__law_made T B) (hr.mono (by decide)) tk rfl T.m__law_made T.f__law_made.kp T.b__law_made (fa_cons (fe_call (ok__law_draw T B) (hr.mono (by decide)) tk rfl T.m__law_draw T.f__law_draw.kp T.b__law_draw (fa_dr 1 (fa_cons (fe_ix (fb_fe (fe_n (fn_lst (fl_cons fe_int (fl_cons fe_int (fl_cons fe_int fl_nil)))))) (fe_call (ok__law_draw T B) (hr.mono (by decide)) tk rfl T.m__law_draw T.f__law_draw.kp T.b__law_draw (fa_dr 1 (fa_cons fe_int fa_nil)))) fa_nil))) (fa_cons (fe_var 7) fa_nil))))
 (fss_cons (fs_if (ft_cmp (cmd_ne hr) (fb_fe (fe_call (ok__law_asked T B) (hr.mono (by decide)) tk rfl T.m__law_asked T.f__law_asked.kp T.b__law_asked (fa_cons fe_int (fa_cons (fe_var 5) (fa_cons (fe_var 6) (fa_cons (fe_var 8) fa_nil)))))) (fb_fe (fe_call (ok__law_shown T B) (hr.mono (by decide)) tk rfl T.m__law_shown T.f__law_shown.kp T.b__law_shown (fa_cons (fe_var 5) (fa_cons (fe_var 8) fa_nil)))))
  (fss_one (fs_ret fe_bl))
  fss_nil)
 (fss_cons (fs_set (i := 9) nd (fe_call (ok__law_asked T B) (hr.mono (by decide)) tk rfl T.m__law_asked T.f__law_asked.kp T.b__law_asked (fa_cons fe_int (fa_cons (fe_var 5) (fa_cons (fe_var 6) (fa_cons (fe_var 8) fa_nil))))))
 (fss_cons (fs_if (ft_w (fw_or (ft_cmp (cmd_ne hr) (fb_var 9) (fb_fe (fe_call (ok__law_again T B) (hr.mono (by decide)) tk rfl T.m__law_again T.f__law_again.kp T.b__law_again (fa_cons (fe_var 5) (fa_cons (fe_var 6) (fa_cons (fe_var 8) fa_nil)))))) (fw_or (ft_cmp (cmd_ne hr) (fb_fe (fe_call (ok__law_asked T B) (hr.mono (by decide)) tk rfl T.m__law_asked T.f__law_asked.kp T.b__law_asked (fa_cons fe_int (fa_cons (fe_var 6) (fa_cons (fe_var 5) (fa_cons (fe_var 8) fa_nil)))))) (fb_var 9)) (fw_or1 (ft_cmp (cmd_ne hr) (fb_fe (fe_call (ok__law_asked T B) (hr.mono (by decide)) tk rfl T.m__law_asked T.f__law_asked.kp T.b__law_asked (fa_cons fe_int (fa_cons (fe_var 5) (fa_cons (fe_var 6) (fa_cons (fe_var 8) fa_nil)))))) (fb_fe (fe_call (ok__law_again T B) (hr.mono (by decide)) tk rfl T.m__law_again T.f__law_again.kp T.b__law_again (fa_cons (fe_var 5) (fa_cons (fe_tup (fl_cons fe_int (fl_cons fe_int fl_nil))) (fa_cons (fe_var 8) fa_nil))))))))))
  (fss_one (fs_ret fe_bl))
  fss_nil)
 (fss_one (fs_if (ft_cmp cmd_isnot (fb_var 9) (fb_fe fe_non))
  (fss_cons (fs_if (ft_w (fw_or (ft_cmp (cmd_ne hr) (fb_fe (fe_call (ok__law_shown T B) (hr.mono (by decide)) tk rfl T.m__law_shown T.f__law_shown.kp T.b__law_shown (fa_cons (fe_var 5) (fa_cons (fe_var 9) fa_nil)))) (fb_fe (fe_call (ok__law_shown T B) (hr.mono (by decide)) tk rfl T.m__law_shown T.f__law_shown.kp T.b__law_shown (fa_cons (fe_var 6) (fa_cons (fe_var 9) fa_nil))))) (fw_or1 (ft_cmp (cmd_ne hr) (fb_fe (fe_cmp (cmd_eq hr) (fb_var 9) (fb_var 8))) (fb_fe (fe_cmp (cmd_eq hr) (fb_fe (fe_call (ok__law_shown T B) (hr.mono (by decide)) tk rfl T.m__law_shown T.f__law_shown.kp T.b__law_shown (fa_cons (fe_var 5) (fa_cons (fe_var 8) fa_nil)))) (fb_fe (fe_call (ok__law_shown T B) (hr.mono (by decide)) tk rfl T.m__law_shown T.f__law_shown.kp T.b__law_shown (fa_cons (fe_var 6) (fa_cons (fe_var 8) fa_nil))))))))))
  (fss_one (fs_ret fe_bl))
  fss_nil)
 (fss_one (fs_if (ft_cmp (cmd_ne hr) (fb_fe (fe_ix (fb_var 5) fe_int)) (fb_fe (fe_ix (fb_var 6) fe_int)))
  (fss_cons (fs_set (i := 11) nd (fe_call (ok__law_and T B) (hr.mono (by decide)) tk rfl T.m__law_and T.f__law_and.kp T.b__law_and (fa_cons (fe_var 9) (fa_cons (fe_call (ok__law_made T B) (hr.mono (by decide)) tk rfl T.m__law_made T.f__law_made.kp T.b__law_made (fa_cons fe_int (fa_cons (fe_bi (cal_max2 rfl) T.n_max (by decide +kernel) (fl_cons (fe_sub (fe_ix (fb_var 5) fe_int) (fe_ix (fb_var 6) fe_int)) (fl_cons (fe_sub (fe_ix (fb_var 6) fe_int) (fe_ix (fb_var 5) fe_int)) fl_nil))) fa_nil))) fa_nil))))
 (fss_one (fs_if (ft_cmp (cmd_ne hr) (fb_fe (fe_call (ok__law_asked T B) (hr.mono (by decide)) tk rfl T.m__law_asked T.f__law_asked.kp T.b__law_asked (fa_cons fe_int (fa_cons (fe_var 5) (fa_cons (fe_var 6) (fa_cons (fe_call (ok__law_and T B) (hr.mono (by decide)) tk rfl T.m__law_and T.f__law_and.kp T.b__law_and (fa_cons (fe_var 9) (fa_cons (fe_tup (fl_cons fe_int (fl_cons (fe_pow fe_int fe_int) fl_nil))) fa_nil))) fa_nil)))))) (fb_var 11))
  (fss_one (fs_ret fe_bl))
  fss_nil)))
  fss_nil)))
  fss_nil))))))))
 (fss_one (fs_ret (fe_cmp (cmd_eq hr) (fb_fe (fe_n (fn_lc (own := [("what", 12)]) rfl nd (fi_rng1 T.n_range (fl_cons fe_int fl_nil)) (blkOk_by (by kernel_rfl)) (fun s H C cl fp => (by apply FGc.cast; (case h => exact (fc_name (i := 12) nd (by decide))); (case q => (try dsimp only [FLG.gbx, Cx.blk, FLH.blkH]) <;> exact rfl))) (fun s H C cl fp => (by apply FTs.cast; (case h => exact fts_nil); (case q => (try dsimp only [FLG.gbx, Cx.blk, FLH.blkH]) <;> exact rfl))) (fun s H C cl fp => (by apply FE.cast; (case h => exact (fe_call (ok__law_asked T B) (hr.mono (by decide)) (takes_wf) rfl T.m__law_asked T.f__law_asked.kp T.b__law_asked (fa_cons (fe_var 12) (fa_cons (fe_var 5) (fa_cons (fe_var 6) (fa_cons (fe_tup (fl_cons (fe_neg fe_int) (fl_cons fe_int fl_nil))) fa_nil)))))); (case q => (try dsimp only [FLG.gbx, Cx.blk, FLH.blkH]) <;> exact rfl)))))) (fb_fe (fe_n (fn_rep (fn_lst (fl_cons fe_str fl_nil)) fe_int)))))))))))), ?_⟩
  clear hr tk po nd
  clear hcd
  intro ns hns hb
  change ∃ m : List Int, List.map PyData.int ns = m.map PyData.int ∧ m.length ≤ 63 ∧ ∀ es, goodB es → (goodB es ∧ _)
  refine ⟨ns, rfl, hns, fun es hes => ⟨hes, ?_⟩⟩
  refine seq_midP (fun s => ∃ wd : Int, (0 ≤ wd ∧ wd ≤ 60) ∧ s = [.fz (.list (ns.map .int)), .dr, .fz (.int wd), .no, .no, .no, .no, .no, .no, .no, .no, .no, .no, .no]) (fun N hN => ?_) ?_
  · walk_at "wp"
    refine ⟨by decide, ⟨by decide, div_s (by decide) (by decide)⟩, fun v v0 v1 => ?_⟩
    rcases (show v = 0 ∨ v = 1 ∨ v = 2 by omega) with rfl | rfl | rfl
    · exact ⟨_, rfl, hN _ ⟨2, by omega, rfl⟩⟩
    · exact ⟨_, rfl, hN _ ⟨8, by omega, rfl⟩⟩
    · exact ⟨_, rfl, hN _ ⟨60, by omega, rfl⟩⟩
  rintro s ⟨wd, ⟨w0, w1⟩, rfl⟩
  refine seq_midP (fun s => ∃ a g b h : Int, (Ck a g ∧ Ck b h) ∧ s = [.fz (.list (ns.map .int)), .dr, .fz (.int wd), .no, .no, .fz (ckD a g), .fz (ckD b h), .no, .no, .no, .no, .no, .no, .no]) (fun N hN => ?_) ?_
  · walk_at "wp"
    refine ⟨⟨by decide, by decide⟩, fun i acc => acc.length = i ∧ ∀ d ∈ acc, ∃ a g, Ck a g ∧ d = ckD a g, ⟨rfl, fun d hd => by cases hd⟩, ?_, ?_⟩
    · rintro i d acc hi ⟨hl, ha⟩
      obtain ⟨_, hi⟩ := rng_get0 hi
      have hi : i < 2 := hi
      walk_at "wp"
      have fin : ∀ n : Int, 0 < n → n ≤ 720 → (0 < n ∧ FL.DivOk n) ∧ ∀ v : Int, 0 ≤ v → v < n → FL.MulOk 2 wd ∧ (0 < 2 * wd + 1 ∧ FL.DivOk (2 * wd + 1)) ∧ ∀ u : Int, 0 ≤ u → u < 2 * wd + 1 → 2 ≤ sizeLine ∧ acc.length < sizeLine ∧ (acc ++ [PyData.tuple [.int v, .int (u - wd)]]).length = i + 1 ∧ ∀ d ∈ acc ++ [PyData.tuple [.int v, .int (u - wd)]], ∃ a g, Ck a g ∧ d = ckD a g := by
        intro n n0 n1
        refine ⟨⟨n0, div_s (by omega) (by omega)⟩, fun v v0 v1 => ⟨mul_l (by decide) (by decide), ⟨by omega, div_s (by omega) (by omega)⟩, fun u u0 u1 => ⟨by decide, Nat.lt_of_lt_of_le (show acc.length < 5 by omega) (by decide), by rw [List.length_append, hl]; rfl, fun d hd => ?_⟩⟩⟩
        rcases List.mem_append.mp hd with hd | hd
        · exact ha d hd
        · rw [List.mem_singleton.mp hd]
          exact ⟨v, u - wd, by unfold Ck; omega, rfl⟩
      refine ⟨by decide, ⟨by decide, div_s (by decide) (by decide)⟩, fun v v0 v1 => ?_⟩
      rcases (show v = 0 ∨ v = 1 by omega) with rfl | rfl
      · exact ⟨_, rfl, fin 4 (by decide) (by decide)⟩
      · exact ⟨_, rfl, fin 720 (by decide) (by decide)⟩
    · rintro acc ⟨hl, ha⟩
      rw [rng_len] at hl
      have hl : acc.length = 2 := hl
      match acc, hl, ha with
      | [x, y], _, ha =>
        obtain ⟨a, g, hc, rfl⟩ := ha x (by simp)
        obtain ⟨b, h, hd, rfl⟩ := ha y (by simp)
        walk_at "wp"
        exact ⟨rfl, rfl, hN _ ⟨a, g, b, h, ⟨hc, hd⟩, rfl⟩⟩
  rintro s ⟨a, g, b, h, ⟨hc, hd⟩, rfl⟩
  refine seq_midP (fun s => ∃ b h : Int, Ck b h ∧ s = [.fz (.list (ns.map .int)), .dr, .fz (.int wd), .no, .no, .fz (ckD a g), .fz (ckD b h), .no, .no, .no, .no, .no, .no, .no]) (fun N hN => ?_) ?_
  · unfold ckD at *
    walk_at "wp"
    walk_at "sm"
    exact ⟨⟨by decide, div_s (by decide) (by decide)⟩, fun v _ _ => ⟨fun _ => ⟨⟨by decide, div_s (by decide) (by decide)⟩, fun _ _ _ => ⟨fun _ => ⟨by decide, hN _ ⟨a, g, hc, rfl⟩⟩, fun _ => ⟨by decide, hN _ ⟨b, g, by unfold Ck at *; omega, rfl⟩⟩⟩⟩, fun _ => hN _ ⟨b, h, hd, rfl⟩⟩⟩
  clear hd
  clear h b
  rintro s ⟨b, h, hd, rfl⟩
  refine seq_midP (fun s => ∃ ws : List D, (ws.length = 11 ∧ ∀ d ∈ ws, clockB d = false) ∧ s = [.fz (.list (ns.map .int)), .dr, .fz (.int wd), .fz (.list ws), .no, .fz (ckD a g), .fz (ckD b h), .no, .no, .no, .no, .no, .no, .no]) (fun N hN => ?_) ?_
  · unfold ckD at *
    walk_at "wp"
    repeat refine ⟨by decide, ?_⟩
    refine hN _ ⟨_, ⟨rfl, fun d hd => ?_⟩, rfl⟩
    simp only [List.mem_cons, List.not_mem_nil, or_false] at hd
    rcases hd with rfl | rfl | rfl | rfl | rfl | rfl | rfl | rfl | rfl | rfl | rfl <;> rfl
  rintro s ⟨ws, ⟨wl, wb⟩, rfl⟩
  refine seq_mid [.fz (.list (ns.map .int)), .dr, .fz (.int wd), .fz (.list ws), .no, .fz (ckD a g), .fz (ckD b h), .no, .no, .no, .no, .no, .no, .no] (fun N hN => ?_) ?_
  · walk_at "wp"
    rw [ck_in hc]
    refine FL.cond_f rfl ⟨by decide, ?_⟩
    apply FL.cond_f
    · decide
    refine lc_fm (fun _ => none) (by rw [wl]; decide) (fun d hd acc J h1 h2 => ?_) ?_
    · walk_at "wp"
      rw [wb d hd]
      exact h1 rfl
    · rw [none_nil]
      refine ⟨by decide, sh_eq sh_nilL sh_nilL, ?_⟩
      rw [ev_lnil]
      exact FL.cond_f rfl hN
  clear wl wb
  obtain ⟨dd, p0, p1⟩ := ck_diff hc hd
  obtain ⟨p, hp⟩ : ∃ p, p = g - h := ⟨_, rfl⟩
  obtain ⟨d, hdd⟩ : ∃ d, d = b - a := ⟨_, rfl⟩
  walk_at "wp"
  refine ⟨⟨by decide, by decide⟩, fun i s' => ∃ x4 x7 x8 x9 x11, s' = [.fz (.list (ns.map .int)), .dr, .fz (.int wd), .fz (.list ws), x4, .fz (ckD a g), .fz (ckD b h), x7, x8, x9, .no, x11, .no, .no], ⟨_, _, _, _, _, rfl⟩, ?_, ?_⟩
  · rintro i e s' hi ⟨x4, x7, x8, x9, x11, rfl⟩
    obtain ⟨rfl, -⟩ := rng_get0 hi
    dsimp only [u_gname, List.set_cons_zero, List.set_cons_succ]
    refine seq_midP (fun s => ∃ wz : Int, (1 ≤ wz ∧ wz ≤ 7) ∧ s = [.fz (.list (ns.map .int)), .dr, .fz (.int wd), .fz (.list ws), .fz (.int i), .fz (ckD a g), .fz (ckD b h), .fz (.int wz), x8, x9, .no, x11, .no, .no]) (fun N hN => ?_) ?_
    · walk_at "wp"
      exact ⟨⟨by decide, div_s (by decide) (by decide)⟩, fun v v0 v1 => hN _ ⟨_, ⟨by omega, by omega⟩, rfl⟩⟩
    rintro s ⟨wz, ⟨z1, z7⟩, rfl⟩
    refine seq_midP (fun s => ∃ t : Rat, (In 420 t ∧ 0 ≤ t ∧ t < 90000) ∧ s = [.fz (.list (ns.map .int)), .dr, .fz (.int wd), .fz (.list ws), .fz (.int i), .fz (ckD a g), .fz (ckD b h), .fz (.int wz), .fz (qD t), x9, .no, x11, .no, .no]) (fun N hN => ?_) ?_
    · walk_at "wp"
      have fin : ∀ n : Int, 0 < n → n ≤ 90000 → (0 < n ∧ FL.DivOk n) ∧ ∀ v : Int, 0 ≤ v → v < n → (-2 ^ 200 < v ∧ 0 < wz ∧ v < 2 ^ 200 ∧ wz < 2 ^ 200) ∧ N [.fz (.list (ns.map .int)), .dr, .fz (.int wd), .fz (.list ws), .fz (.int i), .fz (ckD a g), .fz (ckD b h), .fz (.int wz), .fz (lowD v wz), x9, .no, x11, .no, .no] := by
        intro n n0 n1
        refine ⟨⟨n0, div_s (by omega) (by omega)⟩, fun v v0 v1 => ⟨⟨by omega, by omega, by omega, by omega⟩, ?_⟩⟩
        have hi := in_div (p := v) (show 0 < wz by omega)
        have m := Int.mul_le_mul (show v + 1 ≤ 90000 by omega) z1 (by decide) (by decide)
        obtain ⟨f1, f2⟩ := frac_b (B := 90000) (show 0 < wz by omega) v0 (by omega)
        rw [low_q (by omega)]
        refine hN _ ⟨_, ⟨?_, f1, f2⟩, rfl⟩
        rcases (show wz = 1 ∨ wz = 2 ∨ wz = 3 ∨ wz = 4 ∨ wz = 5 ∨ wz = 6 ∨ wz = 7 by omega) with rfl | rfl | rfl | rfl | rfl | rfl | rfl
        · exact in_k (k := 420) (by decide) hi
        · exact in_k (k := 210) (by decide) hi
        · exact in_k (k := 140) (by decide) hi
        · exact in_k (k := 105) (by decide) hi
        · exact in_k (k := 84) (by decide) hi
        · exact in_k (k := 70) (by decide) hi
        · exact in_k (k := 60) (by decide) hi
      refine ⟨by decide, ⟨by decide, div_s (by decide) (by decide)⟩, fun v v0 v1 => ?_⟩
      rcases (show v = 0 ∨ v = 1 ∨ v = 2 by omega) with rfl | rfl | rfl
      · exact ⟨_, rfl, fin 3 (by decide) (by decide)⟩
      · exact ⟨_, rfl, fin 400 (by decide) (by decide)⟩
      · exact ⟨_, rfl, fin 90000 (by decide) (by decide)⟩
    rintro s ⟨t, ⟨ti, t0, t1⟩, rfl⟩
    have ht : Tm t := ⟨420, ti, by decide, by decide, by grind, by grind⟩
    refine seq_mid [.fz (.list (ns.map .int)), .dr, .fz (.int wd), .fz (.list ws), .fz (.int i), .fz (ckD a g), .fz (ckD b h), .fz (.int wz), .fz (qD t), x9, .no, x11, .no, .no] (fun N hN => ?_) ?_
    · walk_at "wp"
      refine ask_0 hc hd ht t0 (shown_ok hc ht ⟨sh_eq sh_q sh_q, ?_⟩)
      rw [ev_q, decide_eq_true rfl]
      exact FL.cond_f rfl hN
    refine seq_mid [.fz (.list (ns.map .int)), .dr, .fz (.int wd), .fz (.list ws), .fz (.int i), .fz (ckD a g), .fz (ckD b h), .fz (.int wz), .fz (qD t), .fz (againD p d t), .no, x11, .no, .no] (fun N hN => ?_) ?_
    · walk_at "wp"
      rw [hp, hdd] at hN
      exact ask_1 hc hd ht t0 hN
    refine seq_mid [.fz (.list (ns.map .int)), .dr, .fz (.int wd), .fz (.list ws), .fz (.int i), .fz (ckD a g), .fz (ckD b h), .fz (.int wz), .fz (qD t), .fz (againD p d t), .no, x11, .no, .no] (fun N hN => ?_) ?_
    · walk_at "wp"
      have c0 : Ck 0 0 := by unfold Ck; omega
      have sy : againD (h - g) (a - b) t = againD p d t := by
        rw [← again_sym, hp, hdd, show -(h - g) = g - h by omega, show -(a - b) = b - a by omega]
      refine again_ok hc hd ht ⟨sh_eq sh_again sh_again, ?_⟩
      rw [← hp, ← hdd, ag_same]
      refine FL.cond_f rfl (ask_1 hd hc ht t0 ⟨sh_eq sh_again sh_again, ?_⟩)
      rw [sy, ag_same]
      refine FL.cond_f rfl (ask_2 hc hd ht t0 ⟨by decide, again_ok hc c0 ht ⟨sh_eq sh_again sh_again, ?_⟩⟩)
      rw [ag_same]
      exact FL.cond_f rfl hN
    rcases again_is (p := p) (d := d) (t := t) (by omega) with e | ⟨S, e, s0, s1, s2, s3, s4⟩
    · rw [e]
      walk_at "wp"
      exact ⟨_, _, _, _, _, rfl⟩
    rw [e]
    obtain ⟨hS, hS6, fS⟩ : Tm S ∧ Tm (S + 1 / 1000000) ∧ Fq 9 S := by
      rcases s4 with ⟨-, rfl⟩ | ⟨pn, -, k, rfl⟩
      · exact ⟨ht, ⟨105000000, in_add (in_k (k := 250000) (by decide) ti) (in_k (k := 105) (w := 1000000) (by decide) ⟨1, by grind⟩), by decide, by decide, by grind, by grind⟩, fq_of 9 ti (by grind) (by grind)⟩
      · have wi := w_in (d := d) (k := k) pn
        have : 0 < (if p < 0 then -p else p) ∧ (if p < 0 then -p else p) ≤ 120 := by split <;> omega
        generalize (if p < 0 then -p else p) = P at *
        exact ⟨⟨P, wi, by omega, by omega, by grind, by grind⟩, ⟨P * 1000000, in_add (in_more wi) (in_k (k := P) (w := 1000000) (by omega) ⟨1, by grind⟩), by omega, by omega, by grind, by grind⟩, fq_of 9 wi (by grind) (by grind) (by omega)⟩
    have S0 : 0 ≤ S := by grind
    walk_at "wp"
    refine FL.cond_t rfl (shown_ok hc hS (shown_ok hd hS ⟨sh_eq sh_q sh_q, ?_⟩))
    have e1 : shQ a g S = shQ b h S := sh_same.mpr (by rw [← hp, ← hdd]; exact s2)
    rw [e1, ev_q, decide_eq_true rfl]
    refine FL.cond_f rfl ⟨sh_eq sh_q sh_q, shown_ok hc ht (shown_ok hd ht ⟨sh_eq sh_q sh_q, .inl rfl, ?_⟩)⟩
    rw [ev_q, ev_q, ev_bb, show decide (S = t) = decide (shQ a g t = shQ b h t) from decide_eq_decide.mpr (by rw [s3, sh_same, hp, hdd]), decide_eq_true rfl]
    refine FL.cond_f rfl ?_
    unfold ckD at *
    walk_at "wp"
    walk_at "sm"
    refine ⟨fun _ => ⟨_, _, _, _, _, rfl⟩, fun gh => ?_⟩
    have pn : p ≠ 0 := by omega
    rw [show (if h - g > g - h then h - g else g - h) = (if p < 0 then -p else p) by split <;> split <;> omega]
    have sn := same_next (p := p) (d := d) (S := S) (e := 1 / 1000000) pn (by omega) s2 (by grind) (by grind)
    have hP : 0 < (if p < 0 then -p else p) ∧ (if p < 0 then -p else p) ≤ 120 := by split <;> omega
    generalize (if p < 0 then -p else p) = P at *
    have Pn := int_ne (n := P) (by omega)
    have f7 : Fq 7 (720 / (P : Rat)) := by
      have P1 := (int_q (n := P) (a := 1) (b := P) (by omega) (Int.le_refl P)).1
      rw [show ((1 : Int) : Rat) = 1 from rfl] at P1
      have b := quot_b (y := 720 / (P : Rat)) (B := 720) (p := P) (by omega) (by grind) (by grind) (by decide)
      exact fq_of 7 (N := P) ⟨720, by rw [show ((720 : Int) : Rat) = 720 from rfl]; grind⟩ (by grind) (by grind) (by omega)
    refine ⟨⟨by decide, by omega, by decide, by omega⟩, ?_⟩
    rw [low_q (by omega), div_is (x := 720 / (P : Rat)) (by omega) (by rw [show ((720 : Int) : Rat) = 720 from rfl]; grind)]
    refine and_ok fS f7 (by decide) ⟨⟨by decide, by decide, by decide⟩, by decide, ?_⟩
    rw [show (10 : Int) ^ Int.toNat 6 = 1000000 from rfl, q_tup (x := 1 / 1000000) (by decide) (by decide) (by grind)]
    refine and_ok fS (fq_of 20 (N := 1000000) ⟨1, by grind⟩ (by grind) (by grind)) (by decide) (ask_1 hc hd hS6 (by grind) ?_)
    rw [← hp, ← hdd, show againD p d (S + 1 / 1000000) = qD (S + 720 / (P : Rat)) by unfold againD; rw [if_neg pn, sn]]
    refine ⟨sh_eq sh_q sh_q, ?_⟩
    rw [ev_q, decide_eq_true rfl]
    exact FL.cond_t rfl ⟨_, _, _, _, _, rfl⟩
  · rintro s' ⟨x4, x7, x8, x9, x11, rfl⟩
    walk_at "wp"
    refine ⟨⟨by decide, by decide⟩, ?_⟩
    refine lc_map (fun _ => .str (Str.ofString "OutOfRange")) (by decide) (fun d hd2 acc J hJ => ?_) ?_
    · obtain ⟨i, _, rfl⟩ := mem_rng hd2
      walk_at "wp"
      repeat refine ⟨by decide, ?_⟩
      exact ask_N hc hd hJ
    have e1 : List.map (fun x => PyData.str (Str.ofString "OutOfRange")) (rngD 0 (Int.toNat 3)) = List.replicate 3 (.str (Str.ofString "OutOfRange")) := rfl
    have e2 : (List.replicate (Int.toNat 3) [PyData.str (Str.ofString "OutOfRange")]).flatten = List.replicate 3 (.str (Str.ofString "OutOfRange")) := rfl
    rw [e1, e2]
    have sh : Sh 1 (.list (List.replicate 3 (PyData.str (Str.ofString "OutOfRange")))) := sh_l fun d hd => by
      rw [(List.mem_replicate.mp hd).2]
      exact sh_s (by decide +kernel)
    refine ⟨by decide, by decide, by decide, by decide, sh_eq sh sh, ?_⟩
    rw [SeqAt.eqv_refl _ sh.1]

end
theorem txt_mk {K : PySem.W.Frag} {h : Heap} {mg : Str → Option Value} (X : K.In h) (G : h.Ns mainGlobals mg)
    {od0 an0 od1 an1 od2 an2 od3 an3 od4 an4 od5 an5 od6 an6 od7 an7 od8 an8 od9 an9 od10 an10 od11 an11 od12 an12 od13 an13 od14 an14 od15 an15 od16 an16 od17 an17 od18 an18 od19 an19 od20 an20 od21 an21 od22 an22 od23 an23 od24 an24 od25 an25 : Option Addr} {sl0 sl1 sl2 sl3 sl4 sl5 sl6 sl7 sl8 sl9 sl10 sl11 sl12 sl13 sl14 sl15 sl16 sl17 sl18 sl19 sl20 sl21 sl22 sl23 sl24 sl25 : Array (Option Value)} {oc0 kV0 dc0 pm0 ct0 cd0 oc1 kV1 dc1 pm1 ct1 cd1 oc2 kV2 dc2 pm2 ct2 cd2 oc3 kV3 dc3 pm3 ct3 cd3 oc4 kV4 dc4 pm4 ct4 cd4 oc5 kV5 dc5 pm5 ct5 cd5 oc6 kV6 dc6 pm6 ct6 cd6 oc7 kV7 dc7 pm7 ct7 cd7 oc8 kV8 dc8 pm8 ct8 cd8 oc9 kV9 dc9 pm9 ct9 cd9 oc10 kV10 dc10 pm10 ct10 cd10 oc11 kV11 dc11 pm11 ct11 cd11 oc12 kV12 dc12 pm12 ct12 cd12 oc13 kV13 dc13 pm13 ct13 cd13 oc14 kV14 dc14 pm14 ct14 cd14 oc15 kV15 dc15 pm15 ct15 cd15 oc16 kV16 dc16 pm16 ct16 cd16 oc17 kV17 dc17 pm17 ct17 cd17 oc18 kV18 dc18 pm18 ct18 cd18 oc19 kV19 dc19 pm19 ct19 cd19 oc20 kV20 dc20 pm20 ct20 cd20 oc21 kV21 dc21 pm21 ct21 cd21 oc22 kV22 dc22 pm22 ct22 cd22 oc23 kV23 dc23 pm23 ct23 cd23 oc24 kV24 dc24 pm24 ct24 cd24 oc25 kV25 dc25 pm25 ct25 cd25 : Value}
    {f0 f1 f2 f3 f4 f5 f6 f7 f8 f9 f10 f11 f12 f13 f14 f15 f16 f17 f18 f19 f20 f21 f22 f23 f24 f25 : Addr}
    {xc_OutOfRange xc_Malformed xc_NotThere xc_Refused xc_TooMuch xc_SkyError : Addr}
    {tk1 tk2 tk3 tk5 tk6 : Tok}
    {ca4 : Addr}
    {co4 : Option Addr}
    {cn4 : Nat}
    {cs4 : Array (Option Value)}
    (a0 : PySem.W.nsIn K mainGlobals "is_number" = some (some (.ref f0))) (l0 : K.lookup f0 = some ⟨oc0, od0, .func (PySem.W.fnOf "is_number" "is_number" (defArgs s_is_number) (defBody s_is_number) (defScope s_is_number) .none kV0 dc0 pm0 an0 cd0 ct0), sl0⟩) (c0 : PySem.W.codeIn K cd0 "is_number" = true) (k0 : PySem.W.keepIn K (.ref f0) = true)
    (a1 : PySem.W.nsIn K mainGlobals "lowest" = some (some (.ref f1))) (l1 : K.lookup f1 = some ⟨oc1, od1, .func (PySem.W.fnOf "lowest" "lowest" (defArgs s_lowest) (defBody s_lowest) (defScope s_lowest) .none kV1 dc1 pm1 an1 cd1 ct1), sl1⟩) (c1 : PySem.W.codeIn K cd1 "lowest" = true) (k1 : PySem.W.keepIn K (.ref f1) = true)
    (a2 : PySem.W.nsIn K mainGlobals "plus" = some (some (.ref f2))) (l2 : K.lookup f2 = some ⟨oc2, od2, .func (PySem.W.fnOf "plus" "plus" (defArgs s_plus) (defBody s_plus) (defScope s_plus) .none kV2 dc2 pm2 an2 cd2 ct2), sl2⟩) (c2 : PySem.W.codeIn K cd2 "plus" = true) (k2 : PySem.W.keepIn K (.ref f2) = true)
    (a3 : PySem.W.nsIn K mainGlobals "minus" = some (some (.ref f3))) (l3 : K.lookup f3 = some ⟨oc3, od3, .func (PySem.W.fnOf "minus" "minus" (defArgs s_minus) (defBody s_minus) (defScope s_minus) .none kV3 dc3 pm3 an3 cd3 ct3), sl3⟩) (c3 : PySem.W.codeIn K cd3 "minus" = true) (k3 : PySem.W.keepIn K (.ref f3) = true)
    (a4 : PySem.W.nsIn K mainGlobals "times" = some (some (.ref f4))) (l4 : K.lookup f4 = some ⟨oc4, od4, .func (PySem.W.fnOf "times" "times" (defArgs s_times) (defBody s_times) (defScope s_times) .none kV4 dc4 pm4 an4 cd4 ct4), sl4⟩) (c4 : PySem.W.codeIn K cd4 "times" = true) (k4 : PySem.W.keepIn K (.ref f4) = true)
    (a5 : PySem.W.nsIn K mainGlobals "is_dial_clock" = some (some (.ref f5))) (l5 : K.lookup f5 = some ⟨oc5, od5, .func (PySem.W.fnOf "is_dial_clock" "is_dial_clock" (defArgs s_is_dial_clock) (defBody s_is_dial_clock) (defScope s_is_dial_clock) .none kV5 dc5 pm5 an5 cd5 ct5), sl5⟩) (c5 : PySem.W.codeIn K cd5 "is_dial_clock" = true) (k5 : PySem.W.keepIn K (.ref f5) = true)
    (a6 : PySem.W.nsIn K mainGlobals "check_time" = some (some (.ref f6))) (l6 : K.lookup f6 = some ⟨oc6, od6, .func (PySem.W.fnOf "check_time" "check_time" (defArgs s_check_time) (defBody s_check_time) (defScope s_check_time) .none kV6 dc6 pm6 an6 cd6 ct6), sl6⟩) (c6 : PySem.W.codeIn K cd6 "check_time" = true) (k6 : PySem.W.keepIn K (.ref f6) = true)
    (a7 : PySem.W.nsIn K mainGlobals "rest_by_dial" = some (some (.ref f7))) (l7 : K.lookup f7 = some ⟨oc7, od7, .func (PySem.W.fnOf "rest_by_dial" "rest_by_dial" (defArgs s_rest_by_dial) (defBody s_rest_by_dial) (defScope s_rest_by_dial) .none kV7 dc7 pm7 an7 cd7 ct7), sl7⟩) (c7 : PySem.W.codeIn K cd7 "rest_by_dial" = true) (k7 : PySem.W.keepIn K (.ref f7) = true)
    (a8 : PySem.W.nsIn K mainGlobals "shown_at" = some (some (.ref f8))) (l8 : K.lookup f8 = some ⟨oc8, od8, .func (PySem.W.fnOf "shown_at" "shown_at" (defArgs s_shown_at) (defBody s_shown_at) (defScope s_shown_at) .none kV8 dc8 pm8 an8 cd8 ct8), sl8⟩) (c8 : PySem.W.codeIn K cd8 "shown_at" = true) (k8 : PySem.W.keepIn K (.ref f8) = true)
    (a9 : PySem.W.nsIn K mainGlobals "same_again" = some (some (.ref f9))) (l9 : K.lookup f9 = some ⟨oc9, od9, .func (PySem.W.fnOf "same_again" "same_again" (defArgs s_same_again) (defBody s_same_again) (defScope s_same_again) .none kV9 dc9 pm9 an9 cd9 ct9), sl9⟩) (c9 : PySem.W.codeIn K cd9 "same_again" = true) (k9 : PySem.W.keepIn K (.ref f9) = true)
    (a10 : PySem.W.nsIn K mainGlobals "right_again" = some (some (.ref f10))) (l10 : K.lookup f10 = some ⟨oc10, od10, .func (PySem.W.fnOf "right_again" "right_again" (defArgs s_right_again) (defBody s_right_again) (defScope s_right_again) .none kV10 dc10 pm10 an10 cd10 ct10), sl10⟩) (c10 : PySem.W.codeIn K cd10 "right_again" = true) (k10 : PySem.W.keepIn K (.ref f10) = true)
    (a11 : PySem.W.nsIn K mainGlobals "_law_open" = some (some (.ref f11))) (l11 : K.lookup f11 = some ⟨oc11, od11, .func (PySem.W.fnOf "_law_open" "_law_open" (defArgs s__law_open) (defBody s__law_open) (defScope s__law_open) .none kV11 dc11 pm11 an11 cd11 ct11), sl11⟩) (c11 : PySem.W.codeIn K cd11 "_law_open" = true) (k11 : PySem.W.keepIn K (.ref f11) = true)
    (a12 : PySem.W.nsIn K mainGlobals "_law_mixed" = some (some (.ref f12))) (l12 : K.lookup f12 = some ⟨oc12, od12, .func (PySem.W.fnOf "_law_mixed" "_law_mixed" (defArgs s__law_mixed) (defBody s__law_mixed) (defScope s__law_mixed) .none kV12 dc12 pm12 an12 cd12 ct12), sl12⟩) (c12 : PySem.W.codeIn K cd12 "_law_mixed" = true) (k12 : PySem.W.keepIn K (.ref f12) = true)
    (a13 : PySem.W.nsIn K mainGlobals "_law_draw" = some (some (.ref f13))) (l13 : K.lookup f13 = some ⟨oc13, od13, .func (PySem.W.fnOf "_law_draw" "_law_draw" (defArgs s__law_draw) (defBody s__law_draw) (defScope s__law_draw) .none kV13 dc13 pm13 an13 cd13 ct13), sl13⟩) (c13 : PySem.W.codeIn K cd13 "_law_draw" = true) (k13 : PySem.W.keepIn K (.ref f13) = true)
    (a14 : PySem.W.nsIn K mainGlobals "_law_told" = some (some (.ref f14))) (l14 : K.lookup f14 = some ⟨oc14, od14, .func (PySem.W.fnOf "_law_told" "_law_told" (defArgs s__law_told) (defBody s__law_told) (defScope s__law_told) .none kV14 dc14 pm14 an14 cd14 ct14), sl14⟩) (c14 : PySem.W.codeIn K cd14 "_law_told" = true) (k14 : PySem.W.keepIn K (.ref f14) = true)
    (a15 : PySem.W.nsIn K mainGlobals "_law_greatest" = some (some (.ref f15))) (l15 : K.lookup f15 = some ⟨oc15, od15, .func (PySem.W.fnOf "_law_greatest" "_law_greatest" (defArgs s__law_greatest) (defBody s__law_greatest) (defScope s__law_greatest) .none kV15 dc15 pm15 an15 cd15 ct15), sl15⟩) (c15 : PySem.W.codeIn K cd15 "_law_greatest" = true) (k15 : PySem.W.keepIn K (.ref f15) = true)
    (a16 : PySem.W.nsIn K mainGlobals "_law_lowest" = some (some (.ref f16))) (l16 : K.lookup f16 = some ⟨oc16, od16, .func (PySem.W.fnOf "_law_lowest" "_law_lowest" (defArgs s__law_lowest) (defBody s__law_lowest) (defScope s__law_lowest) .none kV16 dc16 pm16 an16 cd16 ct16), sl16⟩) (c16 : PySem.W.codeIn K cd16 "_law_lowest" = true) (k16 : PySem.W.keepIn K (.ref f16) = true)
    (a17 : PySem.W.nsIn K mainGlobals "_law_made" = some (some (.ref f17))) (l17 : K.lookup f17 = some ⟨oc17, od17, .func (PySem.W.fnOf "_law_made" "_law_made" (defArgs s__law_made) (defBody s__law_made) (defScope s__law_made) .none kV17 dc17 pm17 an17 cd17 ct17), sl17⟩) (c17 : PySem.W.codeIn K cd17 "_law_made" = true) (k17 : PySem.W.keepIn K (.ref f17) = true)
    (a18 : PySem.W.nsIn K mainGlobals "_law_by" = some (some (.ref f18))) (l18 : K.lookup f18 = some ⟨oc18, od18, .func (PySem.W.fnOf "_law_by" "_law_by" (defArgs s__law_by) (defBody s__law_by) (defScope s__law_by) .none kV18 dc18 pm18 an18 cd18 ct18), sl18⟩) (c18 : PySem.W.codeIn K cd18 "_law_by" = true) (k18 : PySem.W.keepIn K (.ref f18) = true)
    (a19 : PySem.W.nsIn K mainGlobals "_law_and" = some (some (.ref f19))) (l19 : K.lookup f19 = some ⟨oc19, od19, .func (PySem.W.fnOf "_law_and" "_law_and" (defArgs s__law_and) (defBody s__law_and) (defScope s__law_and) .none kV19 dc19 pm19 an19 cd19 ct19), sl19⟩) (c19 : PySem.W.codeIn K cd19 "_law_and" = true) (k19 : PySem.W.keepIn K (.ref f19) = true)
    (a20 : PySem.W.nsIn K mainGlobals "_law_away" = some (some (.ref f20))) (l20 : K.lookup f20 = some ⟨oc20, od20, .func (PySem.W.fnOf "_law_away" "_law_away" (defArgs s__law_away) (defBody s__law_away) (defScope s__law_away) .none kV20 dc20 pm20 an20 cd20 ct20), sl20⟩) (c20 : PySem.W.codeIn K cd20 "_law_away" = true) (k20 : PySem.W.keepIn K (.ref f20) = true)
    (a21 : PySem.W.nsIn K mainGlobals "_law_rest" = some (some (.ref f21))) (l21 : K.lookup f21 = some ⟨oc21, od21, .func (PySem.W.fnOf "_law_rest" "_law_rest" (defArgs s__law_rest) (defBody s__law_rest) (defScope s__law_rest) .none kV21 dc21 pm21 an21 cd21 ct21), sl21⟩) (c21 : PySem.W.codeIn K cd21 "_law_rest" = true) (k21 : PySem.W.keepIn K (.ref f21) = true)
    (a22 : PySem.W.nsIn K mainGlobals "_law_shown" = some (some (.ref f22))) (l22 : K.lookup f22 = some ⟨oc22, od22, .func (PySem.W.fnOf "_law_shown" "_law_shown" (defArgs s__law_shown) (defBody s__law_shown) (defScope s__law_shown) .none kV22 dc22 pm22 an22 cd22 ct22), sl22⟩) (c22 : PySem.W.codeIn K cd22 "_law_shown" = true) (k22 : PySem.W.keepIn K (.ref f22) = true)
    (a23 : PySem.W.nsIn K mainGlobals "_law_again" = some (some (.ref f23))) (l23 : K.lookup f23 = some ⟨oc23, od23, .func (PySem.W.fnOf "_law_again" "_law_again" (defArgs s__law_again) (defBody s__law_again) (defScope s__law_again) .none kV23 dc23 pm23 an23 cd23 ct23), sl23⟩) (c23 : PySem.W.codeIn K cd23 "_law_again" = true) (k23 : PySem.W.keepIn K (.ref f23) = true)
    (a24 : PySem.W.nsIn K mainGlobals "_law_asked" = some (some (.ref f24))) (l24 : K.lookup f24 = some ⟨oc24, od24, .func (PySem.W.fnOf "_law_asked" "_law_asked" (defArgs s__law_asked) (defBody s__law_asked) (defScope s__law_asked) .none kV24 dc24 pm24 an24 cd24 ct24), sl24⟩) (c24 : PySem.W.codeIn K cd24 "_law_asked" = true) (k24 : PySem.W.keepIn K (.ref f24) = true)
    (a25 : PySem.W.nsIn K mainGlobals "law" = some (some (.ref f25))) (l25 : K.lookup f25 = some ⟨oc25, od25, .func (PySem.W.fnOf "law" "law" (defArgs s_law) (defBody s_law) (defScope s_law) .none kV25 dc25 pm25 an25 cd25 ct25), sl25⟩) (c25 : PySem.W.codeIn K cd25 "law" = true) (k25 : PySem.W.keepIn K (.ref f25) = true)
    (z0 : PySem.W.nsIn K mainGlobals "abs" = some none)
    (z1 : PySem.W.nsIn K mainGlobals "bool" = some none)
    (z2 : PySem.W.nsIn K mainGlobals "int" = some none)
    (z3 : PySem.W.nsIn K mainGlobals "isinstance" = some none)
    (z4 : PySem.W.nsIn K mainGlobals "len" = some none)
    (z5 : PySem.W.nsIn K mainGlobals "list" = some none)
    (z6 : PySem.W.nsIn K mainGlobals "max" = some none)
    (z7 : PySem.W.nsIn K mainGlobals "range" = some none)
    (z8 : PySem.W.nsIn K mainGlobals "tuple" = some none)
    (m0 : PySem.W.nsIn K mainGlobals "gcd" = some (some (.builtin "math.gcd")))
    (cx_MOST_GAIN : PySem.W.nsIn K mainGlobals "MOST_GAIN" = some (some (.int 60 tk1)))
    (cx_DIAL : PySem.W.nsIn K mainGlobals "DIAL" = some (some (.int 720 tk2)))
    (cx_DAY : PySem.W.nsIn K mainGlobals "DAY" = some (some (.int 1440 tk3)))
    (cx_RIGHT : PySem.W.nsIn K mainGlobals "RIGHT" = some (some (.ref ca4)))
    (cy4 : K.lookup ca4 = some ⟨.type "tuple", co4, .seq #[(.int 0 tk5), (.int 0 tk6)] cn4, cs4⟩)
    (xa_OutOfRange : PySem.W.nsIn K mainGlobals "OutOfRange" = some (some (.ref xc_OutOfRange)))
    (xa_Malformed : PySem.W.nsIn K mainGlobals "Malformed" = some (some (.ref xc_Malformed)))
    (xa_NotThere : PySem.W.nsIn K mainGlobals "NotThere" = some (some (.ref xc_NotThere)))
    (xa_Refused : PySem.W.nsIn K mainGlobals "Refused" = some (some (.ref xc_Refused)))
    (xa_TooMuch : PySem.W.nsIn K mainGlobals "TooMuch" = some (some (.ref xc_TooMuch)))
    (xa_SkyError : PySem.W.nsIn K mainGlobals "SkyError" = some (some (.ref xc_SkyError)))
    (xk_OutOfRange : PySem.W.keepIn K (.ref xc_OutOfRange) = true)
    (xe_OutOfRange : PySem.W.excIn K xc_OutOfRange [.type "ValueError", .type "Exception", .type "BaseException", .type "object"] "ValueError.__new__" = true)
    (xb_OutOfRange : PySem.W.subIn K (.ref xc_OutOfRange) (.type "BaseException") = some true)
    (xt_OutOfRange : PySem.W.typeIn K (.ref xc_OutOfRange) = some (.type "type"))
    (x1_OutOfRange : PySem.W.findIn K (.ref xc_OutOfRange) "__getattribute__" = some (some (.builtin "BaseException.__getattribute__")))
    (x2_OutOfRange : PySem.W.findIn K (.ref xc_OutOfRange) "__getattr__" = some none)
    (x3_OutOfRange : PySem.W.hasDictIn K xc_OutOfRange = true)
    (x4_OutOfRange : PySem.W.findIn K (.ref xc_OutOfRange) "__class__" = some (some (.builtin "object.__class__")))
    (x5_OutOfRange : PySem.W.specialIn K (.builtin "object.__class__") "__get__" = some (some (.builtin "getset_descriptor.__get__")))
    (x6_OutOfRange : PySem.W.takesIn K (.builtin "object.__class__") = some true)
    (x7_OutOfRange : PySem.W.mroIn K xc_OutOfRange (.type "object") = some true)
    (xm_OutOfRange_SkyError : PySem.W.exmOne K (.ref xc_OutOfRange) (.ref xc_SkyError) = some true)
    (xi_OutOfRange_OutOfRange : PySem.W.kitOne K (.ref xc_OutOfRange) (.ref xc_OutOfRange) = some true)
    (xi_OutOfRange_Malformed : PySem.W.kitOne K (.ref xc_OutOfRange) (.ref xc_Malformed) = some false)
    (xi_OutOfRange_NotThere : PySem.W.kitOne K (.ref xc_OutOfRange) (.ref xc_NotThere) = some false)
    (xi_OutOfRange_Refused : PySem.W.kitOne K (.ref xc_OutOfRange) (.ref xc_Refused) = some false)
    (xi_OutOfRange_TooMuch : PySem.W.kitOne K (.ref xc_OutOfRange) (.ref xc_TooMuch) = some false)
    (xi_OutOfRange_SkyError : PySem.W.kitOne K (.ref xc_OutOfRange) (.ref xc_SkyError) = some true) :
    Txt K mg ⟨f0, PySem.W.fnOf "is_number" "is_number" (defArgs s_is_number) (defBody s_is_number) (defScope s_is_number) .none kV0 dc0 pm0 an0 cd0 ct0, f1, PySem.W.fnOf "lowest" "lowest" (defArgs s_lowest) (defBody s_lowest) (defScope s_lowest) .none kV1 dc1 pm1 an1 cd1 ct1, f2, PySem.W.fnOf "plus" "plus" (defArgs s_plus) (defBody s_plus) (defScope s_plus) .none kV2 dc2 pm2 an2 cd2 ct2, f3, PySem.W.fnOf "minus" "minus" (defArgs s_minus) (defBody s_minus) (defScope s_minus) .none kV3 dc3 pm3 an3 cd3 ct3, f4, PySem.W.fnOf "times" "times" (defArgs s_times) (defBody s_times) (defScope s_times) .none kV4 dc4 pm4 an4 cd4 ct4, f5, PySem.W.fnOf "is_dial_clock" "is_dial_clock" (defArgs s_is_dial_clock) (defBody s_is_dial_clock) (defScope s_is_dial_clock) .none kV5 dc5 pm5 an5 cd5 ct5, f6, PySem.W.fnOf "check_time" "check_time" (defArgs s_check_time) (defBody s_check_time) (defScope s_check_time) .none kV6 dc6 pm6 an6 cd6 ct6, f7, PySem.W.fnOf "rest_by_dial" "rest_by_dial" (defArgs s_rest_by_dial) (defBody s_rest_by_dial) (defScope s_rest_by_dial) .none kV7 dc7 pm7 an7 cd7 ct7, f8, PySem.W.fnOf "shown_at" "shown_at" (defArgs s_shown_at) (defBody s_shown_at) (defScope s_shown_at) .none kV8 dc8 pm8 an8 cd8 ct8, f9, PySem.W.fnOf "same_again" "same_again" (defArgs s_same_again) (defBody s_same_again) (defScope s_same_again) .none kV9 dc9 pm9 an9 cd9 ct9, f10, PySem.W.fnOf "right_again" "right_again" (defArgs s_right_again) (defBody s_right_again) (defScope s_right_again) .none kV10 dc10 pm10 an10 cd10 ct10, f11, PySem.W.fnOf "_law_open" "_law_open" (defArgs s__law_open) (defBody s__law_open) (defScope s__law_open) .none kV11 dc11 pm11 an11 cd11 ct11, f12, PySem.W.fnOf "_law_mixed" "_law_mixed" (defArgs s__law_mixed) (defBody s__law_mixed) (defScope s__law_mixed) .none kV12 dc12 pm12 an12 cd12 ct12, f13, PySem.W.fnOf "_law_draw" "_law_draw" (defArgs s__law_draw) (defBody s__law_draw) (defScope s__law_draw) .none kV13 dc13 pm13 an13 cd13 ct13, f14, PySem.W.fnOf "_law_told" "_law_told" (defArgs s__law_told) (defBody s__law_told) (defScope s__law_told) .none kV14 dc14 pm14 an14 cd14 ct14, f15, PySem.W.fnOf "_law_greatest" "_law_greatest" (defArgs s__law_greatest) (defBody s__law_greatest) (defScope s__law_greatest) .none kV15 dc15 pm15 an15 cd15 ct15, f16, PySem.W.fnOf "_law_lowest" "_law_lowest" (defArgs s__law_lowest) (defBody s__law_lowest) (defScope s__law_lowest) .none kV16 dc16 pm16 an16 cd16 ct16, f17, PySem.W.fnOf "_law_made" "_law_made" (defArgs s__law_made) (defBody s__law_made) (defScope s__law_made) .none kV17 dc17 pm17 an17 cd17 ct17, f18, PySem.W.fnOf "_law_by" "_law_by" (defArgs s__law_by) (defBody s__law_by) (defScope s__law_by) .none kV18 dc18 pm18 an18 cd18 ct18, f19, PySem.W.fnOf "_law_and" "_law_and" (defArgs s__law_and) (defBody s__law_and) (defScope s__law_and) .none kV19 dc19 pm19 an19 cd19 ct19, f20, PySem.W.fnOf "_law_away" "_law_away" (defArgs s__law_away) (defBody s__law_away) (defScope s__law_away) .none kV20 dc20 pm20 an20 cd20 ct20, f21, PySem.W.fnOf "_law_rest" "_law_rest" (defArgs s__law_rest) (defBody s__law_rest) (defScope s__law_rest) .none kV21 dc21 pm21 an21 cd21 ct21, f22, PySem.W.fnOf "_law_shown" "_law_shown" (defArgs s__law_shown) (defBody s__law_shown) (defScope s__law_shown) .none kV22 dc22 pm22 an22 cd22 ct22, f23, PySem.W.fnOf "_law_again" "_law_again" (defArgs s__law_again) (defBody s__law_again) (defScope s__law_again) .none kV23 dc23 pm23 an23 cd23 ct23, f24, PySem.W.fnOf "_law_asked" "_law_asked" (defArgs s__law_asked) (defBody s__law_asked) (defScope s__law_asked) .none kV24 dc24 pm24 an24 cd24 ct24, f25, PySem.W.fnOf "law" "law" (defArgs s_law) (defBody s_law) (defScope s_law) .none kV25 dc25 pm25 an25 cd25 ct25, xc_OutOfRange, xc_Malformed, xc_NotThere, xc_Refused, xc_TooMuch, xc_SkyError⟩ := by
  have F0 := fun_mk (st := s_is_number) l0 c0 k0
  have F1 := fun_mk (st := s_lowest) l1 c1 k1
  have F2 := fun_mk (st := s_plus) l2 c2 k2
  have F3 := fun_mk (st := s_minus) l3 c3 k3
  have F4 := fun_mk (st := s_times) l4 c4 k4
  have F5 := fun_mk (st := s_is_dial_clock) l5 c5 k5
  have F6 := fun_mk (st := s_check_time) l6 c6 k6
  have F7 := fun_mk (st := s_rest_by_dial) l7 c7 k7
  have F8 := fun_mk (st := s_shown_at) l8 c8 k8
  have F9 := fun_mk (st := s_same_again) l9 c9 k9
  have F10 := fun_mk (st := s_right_again) l10 c10 k10
  have F11 := fun_mk (st := s__law_open) l11 c11 k11
  have F12 := fun_mk (st := s__law_mixed) l12 c12 k12
  have F13 := fun_mk (st := s__law_draw) l13 c13 k13
  have F14 := fun_mk (st := s__law_told) l14 c14 k14
  have F15 := fun_mk (st := s__law_greatest) l15 c15 k15
  have F16 := fun_mk (st := s__law_lowest) l16 c16 k16
  have F17 := fun_mk (st := s__law_made) l17 c17 k17
  have F18 := fun_mk (st := s__law_by) l18 c18 k18
  have F19 := fun_mk (st := s__law_and) l19 c19 k19
  have F20 := fun_mk (st := s__law_away) l20 c20 k20
  have F21 := fun_mk (st := s__law_rest) l21 c21 k21
  have F22 := fun_mk (st := s__law_shown) l22 c22 k22
  have F23 := fun_mk (st := s__law_again) l23 c23 k23
  have F24 := fun_mk (st := s__law_asked) l24 c24 k24
  have F25 := fun_mk (st := s_law) l25 c25 k25
  exact {
    f_is_number := F0
    m_is_number := PySem.W.mg_of X G a0
    b_is_number := F0.binds (ps := ["value", "least", "most"]) fun _ _ _ _ _ _ us hl => match us, hl with | [_, _, _], _ => rfl
    f_lowest := F1
    m_lowest := PySem.W.mg_of X G a1
    b_lowest := F1.binds (ps := ["part", "whole"]) fun _ _ _ _ _ _ us hl => match us, hl with | [_, _], _ => rfl
    f_plus := F2
    m_plus := PySem.W.mg_of X G a2
    b_plus := F2.binds (ps := ["one", "other"]) fun _ _ _ _ _ _ us hl => match us, hl with | [_, _], _ => rfl
    f_minus := F3
    m_minus := PySem.W.mg_of X G a3
    b_minus := F3.binds (ps := ["one", "other"]) fun _ _ _ _ _ _ us hl => match us, hl with | [_, _], _ => rfl
    f_times := F4
    m_times := PySem.W.mg_of X G a4
    b_times := F4.binds (ps := ["one", "other"]) fun _ _ _ _ _ _ us hl => match us, hl with | [_, _], _ => rfl
    f_is_dial_clock := F5
    m_is_dial_clock := PySem.W.mg_of X G a5
    b_is_dial_clock := F5.binds (ps := ["value"]) fun _ _ _ _ _ _ us hl => match us, hl with | [_], _ => rfl
    f_check_time := F6
    m_check_time := PySem.W.mg_of X G a6
    b_check_time := F6.binds (ps := ["time"]) fun _ _ _ _ _ _ us hl => match us, hl with | [_], _ => rfl
    f_rest_by_dial := F7
    m_rest_by_dial := PySem.W.mg_of X G a7
    b_rest_by_dial := F7.binds (ps := ["value"]) fun _ _ _ _ _ _ us hl => match us, hl with | [_], _ => rfl
    f_shown_at := F8
    m_shown_at := PySem.W.mg_of X G a8
    b_shown_at := F8.binds (ps := ["clock", "time"]) fun _ _ _ _ _ _ us hl => match us, hl with | [_, _], _ => rfl
    f_same_again := F9
    m_same_again := PySem.W.mg_of X G a9
    b_same_again := F9.binds (ps := ["one", "other", "time"]) fun _ _ _ _ _ _ us hl => match us, hl with | [_, _, _], _ => rfl
    f_right_again := F10
    m_right_again := PySem.W.mg_of X G a10
    b_right_again := F10.binds (ps := ["clock", "time"]) fun _ _ _ _ _ _ us hl => match us, hl with | [_, _], _ => rfl
    f__law_open := F11
    m__law_open := PySem.W.mg_of X G a11
    b__law_open := F11.binds (ps := ["script"]) fun _ _ _ _ _ _ us hl => match us, hl with | [_], _ => rfl
    f__law_mixed := F12
    m__law_mixed := PySem.W.mg_of X G a12
    b__law_mixed := F12.binds (ps := ["cell", "turn"]) fun _ _ _ _ _ _ us hl => match us, hl with | [_, _], _ => rfl
    f__law_draw := F13
    m__law_draw := PySem.W.mg_of X G a13
    b__law_draw := F13.binds (ps := ["draws", "size"]) fun _ _ _ _ _ _ us hl => match us, hl with | [_, _], _ => rfl
    f__law_told := F14
    m__law_told := PySem.W.mg_of X G a14
    b__law_told := F14.binds (ps := ["error"]) fun _ _ _ _ _ _ us hl => match us, hl with | [_], _ => rfl
    f__law_greatest := F15
    m__law_greatest := PySem.W.mg_of X G a15
    b__law_greatest := F15.binds (ps := ["one", "other"]) fun _ _ _ _ _ _ us hl => match us, hl with | [_, _], _ => rfl
    f__law_lowest := F16
    m__law_lowest := PySem.W.mg_of X G a16
    b__law_lowest := F16.binds (ps := ["part", "whole"]) fun _ _ _ _ _ _ us hl => match us, hl with | [_, _], _ => rfl
    f__law_made := F17
    m__law_made := PySem.W.mg_of X G a17
    b__law_made := F17.binds (ps := ["part", "whole"]) fun _ _ _ _ _ _ us hl => match us, hl with | [_, _], _ => rfl
    f__law_by := F18
    m__law_by := PySem.W.mg_of X G a18
    b__law_by := F18.binds (ps := ["one", "other"]) fun _ _ _ _ _ _ us hl => match us, hl with | [_, _], _ => rfl
    f__law_and := F19
    m__law_and := PySem.W.mg_of X G a19
    b__law_and := F19.binds (ps := ["one", "other"]) fun _ _ _ _ _ _ us hl => match us, hl with | [_, _], _ => rfl
    f__law_away := F20
    m__law_away := PySem.W.mg_of X G a20
    b__law_away := F20.binds (ps := ["one", "other"]) fun _ _ _ _ _ _ us hl => match us, hl with | [_, _], _ => rfl
    f__law_rest := F21
    m__law_rest := PySem.W.mg_of X G a21
    b__law_rest := F21.binds (ps := ["value", "size"]) fun _ _ _ _ _ _ us hl => match us, hl with | [_, _], _ => rfl
    f__law_shown := F22
    m__law_shown := PySem.W.mg_of X G a22
    b__law_shown := F22.binds (ps := ["clock", "time"]) fun _ _ _ _ _ _ us hl => match us, hl with | [_, _], _ => rfl
    f__law_again := F23
    m__law_again := PySem.W.mg_of X G a23
    b__law_again := F23.binds (ps := ["one", "other", "time"]) fun _ _ _ _ _ _ us hl => match us, hl with | [_, _, _], _ => rfl
    f__law_asked := F24
    m__law_asked := PySem.W.mg_of X G a24
    b__law_asked := F24.binds (ps := ["what", "clock", "other", "time"]) fun _ _ _ _ _ _ us hl => match us, hl with | [_, _, _, _], _ => rfl
    f_law := F25
    m_law := PySem.W.mg_of X G a25
    b_law := F25.binds (ps := ["script"]) fun _ _ _ _ _ _ us hl => match us, hl with | [_], _ => rfl
    n_abs := PySem.W.mg_none_of X G z0
    n_bool := PySem.W.mg_none_of X G z1
    n_int := PySem.W.mg_none_of X G z2
    n_isinstance := PySem.W.mg_none_of X G z3
    n_len := PySem.W.mg_none_of X G z4
    n_list := PySem.W.mg_none_of X G z5
    n_max := PySem.W.mg_none_of X G z6
    n_range := PySem.W.mg_none_of X G z7
    n_tuple := PySem.W.mg_none_of X G z8
    i_gcd := PySem.W.mg_of X G m0
    g_MOST_GAIN := ⟨(.int 60), (.int 60 tk1), PySem.W.mg_of X G cx_MOST_GAIN, ⟨_, rfl⟩, (.int _)⟩
    g_DIAL := ⟨(.int 720), (.int 720 tk2), PySem.W.mg_of X G cx_DIAL, ⟨_, rfl⟩, (.int _)⟩
    g_DAY := ⟨(.int 1440), (.int 1440 tk3), PySem.W.mg_of X G cx_DAY, ⟨_, rfl⟩, (.int _)⟩
    g_RIGHT := ⟨(.ref ca4), (.ref ca4), PySem.W.mg_of X G cx_RIGHT, rfl, (.tup (xs := [(.int 0), (.int 0)]) (.inr ⟨_, _, _, cy4, rfl, rfl, by show 2 ≤ sizeLine; decide, (.cons ⟨_, rfl⟩ (.cons ⟨_, rfl⟩ .nil))⟩) (.cons (.int _) (.cons (.int _) .nil)))⟩
    x_OutOfRange := ⟨PySem.W.mg_of X G xa_OutOfRange, xk_OutOfRange, xe_OutOfRange, xb_OutOfRange, xt_OutOfRange, ⟨x1_OutOfRange, x2_OutOfRange, xb_OutOfRange, x3_OutOfRange, x4_OutOfRange, x5_OutOfRange, x6_OutOfRange, x7_OutOfRange⟩⟩
    e_OutOfRange_SkyError := xm_OutOfRange_SkyError
    t_OutOfRange_OutOfRange := xi_OutOfRange_OutOfRange
    t_OutOfRange_Malformed := xi_OutOfRange_Malformed
    t_OutOfRange_NotThere := xi_OutOfRange_NotThere
    t_OutOfRange_Refused := xi_OutOfRange_Refused
    t_OutOfRange_TooMuch := xi_OutOfRange_TooMuch
    t_OutOfRange_SkyError := xi_OutOfRange_SkyError
    y_OutOfRange := PySem.W.mg_of X G xa_OutOfRange
    y_Malformed := PySem.W.mg_of X G xa_Malformed
    y_NotThere := PySem.W.mg_of X G xa_NotThere
    y_Refused := PySem.W.mg_of X G xa_Refused
    y_TooMuch := PySem.W.mg_of X G xa_TooMuch
    y_SkyError := PySem.W.mg_of X G xa_SkyError
  }
theorem law_mk {w : World} {K : PySem.W.Frag} {h : Heap} {mg mb : Str → Option Value} {p : Program} {loose : List Str} {mean : ExcName → Option Value} {fa : Addr} (X : K.In h) (T0 : Top p loose mean mg mb h) (G : h.Ns mainGlobals mg) (hfa : mg "law" = some (.ref fa))
    {od0 an0 od1 an1 od2 an2 od3 an3 od4 an4 od5 an5 od6 an6 od7 an7 od8 an8 od9 an9 od10 an10 od11 an11 od12 an12 od13 an13 od14 an14 od15 an15 od16 an16 od17 an17 od18 an18 od19 an19 od20 an20 od21 an21 od22 an22 od23 an23 od24 an24 od25 an25 : Option Addr} {sl0 sl1 sl2 sl3 sl4 sl5 sl6 sl7 sl8 sl9 sl10 sl11 sl12 sl13 sl14 sl15 sl16 sl17 sl18 sl19 sl20 sl21 sl22 sl23 sl24 sl25 : Array (Option Value)} {oc0 kV0 dc0 pm0 ct0 cd0 oc1 kV1 dc1 pm1 ct1 cd1 oc2 kV2 dc2 pm2 ct2 cd2 oc3 kV3 dc3 pm3 ct3 cd3 oc4 kV4 dc4 pm4 ct4 cd4 oc5 kV5 dc5 pm5 ct5 cd5 oc6 kV6 dc6 pm6 ct6 cd6 oc7 kV7 dc7 pm7 ct7 cd7 oc8 kV8 dc8 pm8 ct8 cd8 oc9 kV9 dc9 pm9 ct9 cd9 oc10 kV10 dc10 pm10 ct10 cd10 oc11 kV11 dc11 pm11 ct11 cd11 oc12 kV12 dc12 pm12 ct12 cd12 oc13 kV13 dc13 pm13 ct13 cd13 oc14 kV14 dc14 pm14 ct14 cd14 oc15 kV15 dc15 pm15 ct15 cd15 oc16 kV16 dc16 pm16 ct16 cd16 oc17 kV17 dc17 pm17 ct17 cd17 oc18 kV18 dc18 pm18 ct18 cd18 oc19 kV19 dc19 pm19 ct19 cd19 oc20 kV20 dc20 pm20 ct20 cd20 oc21 kV21 dc21 pm21 ct21 cd21 oc22 kV22 dc22 pm22 ct22 cd22 oc23 kV23 dc23 pm23 ct23 cd23 oc24 kV24 dc24 pm24 ct24 cd24 oc25 kV25 dc25 pm25 ct25 cd25 : Value}
    {f0 f1 f2 f3 f4 f5 f6 f7 f8 f9 f10 f11 f12 f13 f14 f15 f16 f17 f18 f19 f20 f21 f22 f23 f24 f25 : Addr}
    {xc_OutOfRange xc_Malformed xc_NotThere xc_Refused xc_TooMuch xc_SkyError : Addr}
    {tk1 tk2 tk3 tk5 tk6 : Tok}
    {ca4 : Addr}
    {co4 : Option Addr}
    {cn4 : Nat}
    {cs4 : Array (Option Value)}
    (a0 : PySem.W.nsIn K mainGlobals "is_number" = some (some (.ref f0))) (l0 : K.lookup f0 = some ⟨oc0, od0, .func (PySem.W.fnOf "is_number" "is_number" (defArgs s_is_number) (defBody s_is_number) (defScope s_is_number) .none kV0 dc0 pm0 an0 cd0 ct0), sl0⟩) (c0 : PySem.W.codeIn K cd0 "is_number" = true) (k0 : PySem.W.keepIn K (.ref f0) = true)
    (a1 : PySem.W.nsIn K mainGlobals "lowest" = some (some (.ref f1))) (l1 : K.lookup f1 = some ⟨oc1, od1, .func (PySem.W.fnOf "lowest" "lowest" (defArgs s_lowest) (defBody s_lowest) (defScope s_lowest) .none kV1 dc1 pm1 an1 cd1 ct1), sl1⟩) (c1 : PySem.W.codeIn K cd1 "lowest" = true) (k1 : PySem.W.keepIn K (.ref f1) = true)
    (a2 : PySem.W.nsIn K mainGlobals "plus" = some (some (.ref f2))) (l2 : K.lookup f2 = some ⟨oc2, od2, .func (PySem.W.fnOf "plus" "plus" (defArgs s_plus) (defBody s_plus) (defScope s_plus) .none kV2 dc2 pm2 an2 cd2 ct2), sl2⟩) (c2 : PySem.W.codeIn K cd2 "plus" = true) (k2 : PySem.W.keepIn K (.ref f2) = true)
    (a3 : PySem.W.nsIn K mainGlobals "minus" = some (some (.ref f3))) (l3 : K.lookup f3 = some ⟨oc3, od3, .func (PySem.W.fnOf "minus" "minus" (defArgs s_minus) (defBody s_minus) (defScope s_minus) .none kV3 dc3 pm3 an3 cd3 ct3), sl3⟩) (c3 : PySem.W.codeIn K cd3 "minus" = true) (k3 : PySem.W.keepIn K (.ref f3) = true)
    (a4 : PySem.W.nsIn K mainGlobals "times" = some (some (.ref f4))) (l4 : K.lookup f4 = some ⟨oc4, od4, .func (PySem.W.fnOf "times" "times" (defArgs s_times) (defBody s_times) (defScope s_times) .none kV4 dc4 pm4 an4 cd4 ct4), sl4⟩) (c4 : PySem.W.codeIn K cd4 "times" = true) (k4 : PySem.W.keepIn K (.ref f4) = true)
    (a5 : PySem.W.nsIn K mainGlobals "is_dial_clock" = some (some (.ref f5))) (l5 : K.lookup f5 = some ⟨oc5, od5, .func (PySem.W.fnOf "is_dial_clock" "is_dial_clock" (defArgs s_is_dial_clock) (defBody s_is_dial_clock) (defScope s_is_dial_clock) .none kV5 dc5 pm5 an5 cd5 ct5), sl5⟩) (c5 : PySem.W.codeIn K cd5 "is_dial_clock" = true) (k5 : PySem.W.keepIn K (.ref f5) = true)
    (a6 : PySem.W.nsIn K mainGlobals "check_time" = some (some (.ref f6))) (l6 : K.lookup f6 = some ⟨oc6, od6, .func (PySem.W.fnOf "check_time" "check_time" (defArgs s_check_time) (defBody s_check_time) (defScope s_check_time) .none kV6 dc6 pm6 an6 cd6 ct6), sl6⟩) (c6 : PySem.W.codeIn K cd6 "check_time" = true) (k6 : PySem.W.keepIn K (.ref f6) = true)
    (a7 : PySem.W.nsIn K mainGlobals "rest_by_dial" = some (some (.ref f7))) (l7 : K.lookup f7 = some ⟨oc7, od7, .func (PySem.W.fnOf "rest_by_dial" "rest_by_dial" (defArgs s_rest_by_dial) (defBody s_rest_by_dial) (defScope s_rest_by_dial) .none kV7 dc7 pm7 an7 cd7 ct7), sl7⟩) (c7 : PySem.W.codeIn K cd7 "rest_by_dial" = true) (k7 : PySem.W.keepIn K (.ref f7) = true)
    (a8 : PySem.W.nsIn K mainGlobals "shown_at" = some (some (.ref f8))) (l8 : K.lookup f8 = some ⟨oc8, od8, .func (PySem.W.fnOf "shown_at" "shown_at" (defArgs s_shown_at) (defBody s_shown_at) (defScope s_shown_at) .none kV8 dc8 pm8 an8 cd8 ct8), sl8⟩) (c8 : PySem.W.codeIn K cd8 "shown_at" = true) (k8 : PySem.W.keepIn K (.ref f8) = true)
    (a9 : PySem.W.nsIn K mainGlobals "same_again" = some (some (.ref f9))) (l9 : K.lookup f9 = some ⟨oc9, od9, .func (PySem.W.fnOf "same_again" "same_again" (defArgs s_same_again) (defBody s_same_again) (defScope s_same_again) .none kV9 dc9 pm9 an9 cd9 ct9), sl9⟩) (c9 : PySem.W.codeIn K cd9 "same_again" = true) (k9 : PySem.W.keepIn K (.ref f9) = true)
    (a10 : PySem.W.nsIn K mainGlobals "right_again" = some (some (.ref f10))) (l10 : K.lookup f10 = some ⟨oc10, od10, .func (PySem.W.fnOf "right_again" "right_again" (defArgs s_right_again) (defBody s_right_again) (defScope s_right_again) .none kV10 dc10 pm10 an10 cd10 ct10), sl10⟩) (c10 : PySem.W.codeIn K cd10 "right_again" = true) (k10 : PySem.W.keepIn K (.ref f10) = true)
    (a11 : PySem.W.nsIn K mainGlobals "_law_open" = some (some (.ref f11))) (l11 : K.lookup f11 = some ⟨oc11, od11, .func (PySem.W.fnOf "_law_open" "_law_open" (defArgs s__law_open) (defBody s__law_open) (defScope s__law_open) .none kV11 dc11 pm11 an11 cd11 ct11), sl11⟩) (c11 : PySem.W.codeIn K cd11 "_law_open" = true) (k11 : PySem.W.keepIn K (.ref f11) = true)
    (a12 : PySem.W.nsIn K mainGlobals "_law_mixed" = some (some (.ref f12))) (l12 : K.lookup f12 = some ⟨oc12, od12, .func (PySem.W.fnOf "_law_mixed" "_law_mixed" (defArgs s__law_mixed) (defBody s__law_mixed) (defScope s__law_mixed) .none kV12 dc12 pm12 an12 cd12 ct12), sl12⟩) (c12 : PySem.W.codeIn K cd12 "_law_mixed" = true) (k12 : PySem.W.keepIn K (.ref f12) = true)
    (a13 : PySem.W.nsIn K mainGlobals "_law_draw" = some (some (.ref f13))) (l13 : K.lookup f13 = some ⟨oc13, od13, .func (PySem.W.fnOf "_law_draw" "_law_draw" (defArgs s__law_draw) (defBody s__law_draw) (defScope s__law_draw) .none kV13 dc13 pm13 an13 cd13 ct13), sl13⟩) (c13 : PySem.W.codeIn K cd13 "_law_draw" = true) (k13 : PySem.W.keepIn K (.ref f13) = true)
    (a14 : PySem.W.nsIn K mainGlobals "_law_told" = some (some (.ref f14))) (l14 : K.lookup f14 = some ⟨oc14, od14, .func (PySem.W.fnOf "_law_told" "_law_told" (defArgs s__law_told) (defBody s__law_told) (defScope s__law_told) .none kV14 dc14 pm14 an14 cd14 ct14), sl14⟩) (c14 : PySem.W.codeIn K cd14 "_law_told" = true) (k14 : PySem.W.keepIn K (.ref f14) = true)
    (a15 : PySem.W.nsIn K mainGlobals "_law_greatest" = some (some (.ref f15))) (l15 : K.lookup f15 = some ⟨oc15, od15, .func (PySem.W.fnOf "_law_greatest" "_law_greatest" (defArgs s__law_greatest) (defBody s__law_greatest) (defScope s__law_greatest) .none kV15 dc15 pm15 an15 cd15 ct15), sl15⟩) (c15 : PySem.W.codeIn K cd15 "_law_greatest" = true) (k15 : PySem.W.keepIn K (.ref f15) = true)
    (a16 : PySem.W.nsIn K mainGlobals "_law_lowest" = some (some (.ref f16))) (l16 : K.lookup f16 = some ⟨oc16, od16, .func (PySem.W.fnOf "_law_lowest" "_law_lowest" (defArgs s__law_lowest) (defBody s__law_lowest) (defScope s__law_lowest) .none kV16 dc16 pm16 an16 cd16 ct16), sl16⟩) (c16 : PySem.W.codeIn K cd16 "_law_lowest" = true) (k16 : PySem.W.keepIn K (.ref f16) = true)
    (a17 : PySem.W.nsIn K mainGlobals "_law_made" = some (some (.ref f17))) (l17 : K.lookup f17 = some ⟨oc17, od17, .func (PySem.W.fnOf "_law_made" "_law_made" (defArgs s__law_made) (defBody s__law_made) (defScope s__law_made) .none kV17 dc17 pm17 an17 cd17 ct17), sl17⟩) (c17 : PySem.W.codeIn K cd17 "_law_made" = true) (k17 : PySem.W.keepIn K (.ref f17) = true)
    (a18 : PySem.W.nsIn K mainGlobals "_law_by" = some (some (.ref f18))) (l18 : K.lookup f18 = some ⟨oc18, od18, .func (PySem.W.fnOf "_law_by" "_law_by" (defArgs s__law_by) (defBody s__law_by) (defScope s__law_by) .none kV18 dc18 pm18 an18 cd18 ct18), sl18⟩) (c18 : PySem.W.codeIn K cd18 "_law_by" = true) (k18 : PySem.W.keepIn K (.ref f18) = true)
    (a19 : PySem.W.nsIn K mainGlobals "_law_and" = some (some (.ref f19))) (l19 : K.lookup f19 = some ⟨oc19, od19, .func (PySem.W.fnOf "_law_and" "_law_and" (defArgs s__law_and) (defBody s__law_and) (defScope s__law_and) .none kV19 dc19 pm19 an19 cd19 ct19), sl19⟩) (c19 : PySem.W.codeIn K cd19 "_law_and" = true) (k19 : PySem.W.keepIn K (.ref f19) = true)
    (a20 : PySem.W.nsIn K mainGlobals "_law_away" = some (some (.ref f20))) (l20 : K.lookup f20 = some ⟨oc20, od20, .func (PySem.W.fnOf "_law_away" "_law_away" (defArgs s__law_away) (defBody s__law_away) (defScope s__law_away) .none kV20 dc20 pm20 an20 cd20 ct20), sl20⟩) (c20 : PySem.W.codeIn K cd20 "_law_away" = true) (k20 : PySem.W.keepIn K (.ref f20) = true)
    (a21 : PySem.W.nsIn K mainGlobals "_law_rest" = some (some (.ref f21))) (l21 : K.lookup f21 = some ⟨oc21, od21, .func (PySem.W.fnOf "_law_rest" "_law_rest" (defArgs s__law_rest) (defBody s__law_rest) (defScope s__law_rest) .none kV21 dc21 pm21 an21 cd21 ct21), sl21⟩) (c21 : PySem.W.codeIn K cd21 "_law_rest" = true) (k21 : PySem.W.keepIn K (.ref f21) = true)
    (a22 : PySem.W.nsIn K mainGlobals "_law_shown" = some (some (.ref f22))) (l22 : K.lookup f22 = some ⟨oc22, od22, .func (PySem.W.fnOf "_law_shown" "_law_shown" (defArgs s__law_shown) (defBody s__law_shown) (defScope s__law_shown) .none kV22 dc22 pm22 an22 cd22 ct22), sl22⟩) (c22 : PySem.W.codeIn K cd22 "_law_shown" = true) (k22 : PySem.W.keepIn K (.ref f22) = true)
    (a23 : PySem.W.nsIn K mainGlobals "_law_again" = some (some (.ref f23))) (l23 : K.lookup f23 = some ⟨oc23, od23, .func (PySem.W.fnOf "_law_again" "_law_again" (defArgs s__law_again) (defBody s__law_again) (defScope s__law_again) .none kV23 dc23 pm23 an23 cd23 ct23), sl23⟩) (c23 : PySem.W.codeIn K cd23 "_law_again" = true) (k23 : PySem.W.keepIn K (.ref f23) = true)
    (a24 : PySem.W.nsIn K mainGlobals "_law_asked" = some (some (.ref f24))) (l24 : K.lookup f24 = some ⟨oc24, od24, .func (PySem.W.fnOf "_law_asked" "_law_asked" (defArgs s__law_asked) (defBody s__law_asked) (defScope s__law_asked) .none kV24 dc24 pm24 an24 cd24 ct24), sl24⟩) (c24 : PySem.W.codeIn K cd24 "_law_asked" = true) (k24 : PySem.W.keepIn K (.ref f24) = true)
    (a25 : PySem.W.nsIn K mainGlobals "law" = some (some (.ref f25))) (l25 : K.lookup f25 = some ⟨oc25, od25, .func (PySem.W.fnOf "law" "law" (defArgs s_law) (defBody s_law) (defScope s_law) .none kV25 dc25 pm25 an25 cd25 ct25), sl25⟩) (c25 : PySem.W.codeIn K cd25 "law" = true) (k25 : PySem.W.keepIn K (.ref f25) = true)
    (z0 : PySem.W.nsIn K mainGlobals "abs" = some none)
    (z1 : PySem.W.nsIn K mainGlobals "bool" = some none)
    (z2 : PySem.W.nsIn K mainGlobals "int" = some none)
    (z3 : PySem.W.nsIn K mainGlobals "isinstance" = some none)
    (z4 : PySem.W.nsIn K mainGlobals "len" = some none)
    (z5 : PySem.W.nsIn K mainGlobals "list" = some none)
    (z6 : PySem.W.nsIn K mainGlobals "max" = some none)
    (z7 : PySem.W.nsIn K mainGlobals "range" = some none)
    (z8 : PySem.W.nsIn K mainGlobals "tuple" = some none)
    (m0 : PySem.W.nsIn K mainGlobals "gcd" = some (some (.builtin "math.gcd")))
    (cx_MOST_GAIN : PySem.W.nsIn K mainGlobals "MOST_GAIN" = some (some (.int 60 tk1)))
    (cx_DIAL : PySem.W.nsIn K mainGlobals "DIAL" = some (some (.int 720 tk2)))
    (cx_DAY : PySem.W.nsIn K mainGlobals "DAY" = some (some (.int 1440 tk3)))
    (cx_RIGHT : PySem.W.nsIn K mainGlobals "RIGHT" = some (some (.ref ca4)))
    (cy4 : K.lookup ca4 = some ⟨.type "tuple", co4, .seq #[(.int 0 tk5), (.int 0 tk6)] cn4, cs4⟩)
    (xa_OutOfRange : PySem.W.nsIn K mainGlobals "OutOfRange" = some (some (.ref xc_OutOfRange)))
    (xa_Malformed : PySem.W.nsIn K mainGlobals "Malformed" = some (some (.ref xc_Malformed)))
    (xa_NotThere : PySem.W.nsIn K mainGlobals "NotThere" = some (some (.ref xc_NotThere)))
    (xa_Refused : PySem.W.nsIn K mainGlobals "Refused" = some (some (.ref xc_Refused)))
    (xa_TooMuch : PySem.W.nsIn K mainGlobals "TooMuch" = some (some (.ref xc_TooMuch)))
    (xa_SkyError : PySem.W.nsIn K mainGlobals "SkyError" = some (some (.ref xc_SkyError)))
    (xk_OutOfRange : PySem.W.keepIn K (.ref xc_OutOfRange) = true)
    (xe_OutOfRange : PySem.W.excIn K xc_OutOfRange [.type "ValueError", .type "Exception", .type "BaseException", .type "object"] "ValueError.__new__" = true)
    (xb_OutOfRange : PySem.W.subIn K (.ref xc_OutOfRange) (.type "BaseException") = some true)
    (xt_OutOfRange : PySem.W.typeIn K (.ref xc_OutOfRange) = some (.type "type"))
    (x1_OutOfRange : PySem.W.findIn K (.ref xc_OutOfRange) "__getattribute__" = some (some (.builtin "BaseException.__getattribute__")))
    (x2_OutOfRange : PySem.W.findIn K (.ref xc_OutOfRange) "__getattr__" = some none)
    (x3_OutOfRange : PySem.W.hasDictIn K xc_OutOfRange = true)
    (x4_OutOfRange : PySem.W.findIn K (.ref xc_OutOfRange) "__class__" = some (some (.builtin "object.__class__")))
    (x5_OutOfRange : PySem.W.specialIn K (.builtin "object.__class__") "__get__" = some (some (.builtin "getset_descriptor.__get__")))
    (x6_OutOfRange : PySem.W.takesIn K (.builtin "object.__class__") = some true)
    (x7_OutOfRange : PySem.W.mroIn K xc_OutOfRange (.type "object") = some true)
    (xm_OutOfRange_SkyError : PySem.W.exmOne K (.ref xc_OutOfRange) (.ref xc_SkyError) = some true)
    (xi_OutOfRange_OutOfRange : PySem.W.kitOne K (.ref xc_OutOfRange) (.ref xc_OutOfRange) = some true)
    (xi_OutOfRange_Malformed : PySem.W.kitOne K (.ref xc_OutOfRange) (.ref xc_Malformed) = some false)
    (xi_OutOfRange_NotThere : PySem.W.kitOne K (.ref xc_OutOfRange) (.ref xc_NotThere) = some false)
    (xi_OutOfRange_Refused : PySem.W.kitOne K (.ref xc_OutOfRange) (.ref xc_Refused) = some false)
    (xi_OutOfRange_TooMuch : PySem.W.kitOne K (.ref xc_OutOfRange) (.ref xc_TooMuch) = some false)
    (xi_OutOfRange_SkyError : PySem.W.kitOne K (.ref xc_OutOfRange) (.ref xc_SkyError) = some true)
     :
    LamX.LawAtS PySem.Challenge.rw_nightsgiven_k56_whole_clocks_that_go_wro w K (L2N.CX PySem.Challenge.rw_nightsgiven_k56_whole_clocks_that_go_wro.prog w) 8 63 "script" mg fa h := by
  have e := hfa.symm.trans (PySem.W.mg_of X G a25)
  cases e
  have T := txt_mk X G a0 l0 c0 k0 a1 l1 c1 k1 a2 l2 c2 k2 a3 l3 c3 k3 a4 l4 c4 k4 a5 l5 c5 k5 a6 l6 c6 k6 a7 l7 c7 k7 a8 l8 c8 k8 a9 l9 c9 k9 a10 l10 c10 k10 a11 l11 c11 k11 a12 l12 c12 k12 a13 l13 c13 k13 a14 l14 c14 k14 a15 l15 c15 k15 a16 l16 c16 k16 a17 l17 c17 k17 a18 l18 c18 k18 a19 l19 c19 k19 a20 l20 c20 k20 a21 l21 c21 k21 a22 l22 c22 k22 a23 l23 c23 k23 a24 l24 c24 k24 a25 l25 c25 k25 z0 z1 z2 z3 z4 z5 z6 z7 z8 m0 cx_MOST_GAIN cx_DIAL cx_DAY cx_RIGHT cy4 xa_OutOfRange xa_Malformed xa_NotThere xa_Refused xa_TooMuch xa_SkyError xk_OutOfRange xe_OutOfRange xb_OutOfRange xt_OutOfRange x1_OutOfRange x2_OutOfRange x3_OutOfRange x4_OutOfRange x5_OutOfRange x6_OutOfRange x7_OutOfRange xm_OutOfRange_SkyError xi_OutOfRange_OutOfRange xi_OutOfRange_Malformed xi_OutOfRange_NotThere xi_OutOfRange_Refused xi_OutOfRange_TooMuch xi_OutOfRange_SkyError
  refine ⟨PySem.W.fnOf "law" "law" (defArgs s_law) (defBody s_law) (defScope s_law) .none kV25 dc25 pm25 an25 cd25 ct25, [], spLaw K (LL ⟨f0, PySem.W.fnOf "is_number" "is_number" (defArgs s_is_number) (defBody s_is_number) (defScope s_is_number) .none kV0 dc0 pm0 an0 cd0 ct0, f1, PySem.W.fnOf "lowest" "lowest" (defArgs s_lowest) (defBody s_lowest) (defScope s_lowest) .none kV1 dc1 pm1 an1 cd1 ct1, f2, PySem.W.fnOf "plus" "plus" (defArgs s_plus) (defBody s_plus) (defScope s_plus) .none kV2 dc2 pm2 an2 cd2 ct2, f3, PySem.W.fnOf "minus" "minus" (defArgs s_minus) (defBody s_minus) (defScope s_minus) .none kV3 dc3 pm3 an3 cd3 ct3, f4, PySem.W.fnOf "times" "times" (defArgs s_times) (defBody s_times) (defScope s_times) .none kV4 dc4 pm4 an4 cd4 ct4, f5, PySem.W.fnOf "is_dial_clock" "is_dial_clock" (defArgs s_is_dial_clock) (defBody s_is_dial_clock) (defScope s_is_dial_clock) .none kV5 dc5 pm5 an5 cd5 ct5, f6, PySem.W.fnOf "check_time" "check_time" (defArgs s_check_time) (defBody s_check_time) (defScope s_check_time) .none kV6 dc6 pm6 an6 cd6 ct6, f7, PySem.W.fnOf "rest_by_dial" "rest_by_dial" (defArgs s_rest_by_dial) (defBody s_rest_by_dial) (defScope s_rest_by_dial) .none kV7 dc7 pm7 an7 cd7 ct7, f8, PySem.W.fnOf "shown_at" "shown_at" (defArgs s_shown_at) (defBody s_shown_at) (defScope s_shown_at) .none kV8 dc8 pm8 an8 cd8 ct8, f9, PySem.W.fnOf "same_again" "same_again" (defArgs s_same_again) (defBody s_same_again) (defScope s_same_again) .none kV9 dc9 pm9 an9 cd9 ct9, f10, PySem.W.fnOf "right_again" "right_again" (defArgs s_right_again) (defBody s_right_again) (defScope s_right_again) .none kV10 dc10 pm10 an10 cd10 ct10, f11, PySem.W.fnOf "_law_open" "_law_open" (defArgs s__law_open) (defBody s__law_open) (defScope s__law_open) .none kV11 dc11 pm11 an11 cd11 ct11, f12, PySem.W.fnOf "_law_mixed" "_law_mixed" (defArgs s__law_mixed) (defBody s__law_mixed) (defScope s__law_mixed) .none kV12 dc12 pm12 an12 cd12 ct12, f13, PySem.W.fnOf "_law_draw" "_law_draw" (defArgs s__law_draw) (defBody s__law_draw) (defScope s__law_draw) .none kV13 dc13 pm13 an13 cd13 ct13, f14, PySem.W.fnOf "_law_told" "_law_told" (defArgs s__law_told) (defBody s__law_told) (defScope s__law_told) .none kV14 dc14 pm14 an14 cd14 ct14, f15, PySem.W.fnOf "_law_greatest" "_law_greatest" (defArgs s__law_greatest) (defBody s__law_greatest) (defScope s__law_greatest) .none kV15 dc15 pm15 an15 cd15 ct15, f16, PySem.W.fnOf "_law_lowest" "_law_lowest" (defArgs s__law_lowest) (defBody s__law_lowest) (defScope s__law_lowest) .none kV16 dc16 pm16 an16 cd16 ct16, f17, PySem.W.fnOf "_law_made" "_law_made" (defArgs s__law_made) (defBody s__law_made) (defScope s__law_made) .none kV17 dc17 pm17 an17 cd17 ct17, f18, PySem.W.fnOf "_law_by" "_law_by" (defArgs s__law_by) (defBody s__law_by) (defScope s__law_by) .none kV18 dc18 pm18 an18 cd18 ct18, f19, PySem.W.fnOf "_law_and" "_law_and" (defArgs s__law_and) (defBody s__law_and) (defScope s__law_and) .none kV19 dc19 pm19 an19 cd19 ct19, f20, PySem.W.fnOf "_law_away" "_law_away" (defArgs s__law_away) (defBody s__law_away) (defScope s__law_away) .none kV20 dc20 pm20 an20 cd20 ct20, f21, PySem.W.fnOf "_law_rest" "_law_rest" (defArgs s__law_rest) (defBody s__law_rest) (defScope s__law_rest) .none kV21 dc21 pm21 an21 cd21 ct21, f22, PySem.W.fnOf "_law_shown" "_law_shown" (defArgs s__law_shown) (defBody s__law_shown) (defScope s__law_shown) .none kV22 dc22 pm22 an22 cd22 ct22, f23, PySem.W.fnOf "_law_again" "_law_again" (defArgs s__law_again) (defBody s__law_again) (defScope s__law_again) .none kV23 dc23 pm23 an23 cd23 ct23, f24, PySem.W.fnOf "_law_asked" "_law_asked" (defArgs s__law_asked) (defBody s__law_asked) (defScope s__law_asked) .none kV24 dc24 pm24 an24 cd24 ct24, fa, PySem.W.fnOf "law" "law" (defArgs s_law) (defBody s_law) (defScope s_law) .none kV25 dc25 pm25 an25 cd25 ct25, xc_OutOfRange, xc_Malformed, xc_NotThere, xc_Refused, xc_TooMuch, xc_SkyError⟩), ?_, ?_, ?_, fun s u => .of_eq rfl, fun H a ns hl hb ht hs => ⟨a, ns, rfl, hs, hl, hb, ?_, fun _ => rfl⟩, fun base _ _ hB => ok_law T ?_⟩
  · exact fun _ z => (by cases z)
  · exact fun _ z => (by cases z)
  · exact fun _ z => (by cases z)
  · intro P hP
    exact absurd hP List.not_mem_nil
  · exact ⟨⟩
end Lw
open PySem PySem.W PyProof.Rows
set_option maxHeartbeats 0 in
theorem PySem.Challenge.cw_nightsgiven_k56_whole_clocks_that_go_wro_holds : PySem.Challenge.rw_nightsgiven_k56_whole_clocks_that_go_wro.Holds := by
  w_on; o_law; k_head; (case hw => w_witness2)
  k_fill
  refine FL.walk_ofTt (l := PySem.Challenge.rw_nightsgiven_k56_whole_clocks_that_go_wro) (n := 63) (k := 8) (x := "script") (CX := fun w => L2N.CX PySem.Challenge.rw_nightsgiven_k56_whole_clocks_that_go_wro.prog w) rfl (by decide) rfl ⟨rfl, by decide, by decide⟩ (fun w h Y => PySem.W.kIn_of Y) ?F FL.cx_none
  case F =>
    intro w mg mb fa h mean Y KX T0 G hmg
    refine' Lw.law_mk KX T0 G hmg ?a0 ?l0 ?c0 ?k0 ?a1 ?l1 ?c1 ?k1 ?a2 ?l2 ?c2 ?k2 ?a3 ?l3 ?c3 ?k3 ?a4 ?l4 ?c4 ?k4 ?a5 ?l5 ?c5 ?k5 ?a6 ?l6 ?c6 ?k6 ?a7 ?l7 ?c7 ?k7 ?a8 ?l8 ?c8 ?k8 ?a9 ?l9 ?c9 ?k9 ?a10 ?l10 ?c10 ?k10 ?a11 ?l11 ?c11 ?k11 ?a12 ?l12 ?c12 ?k12 ?a13 ?l13 ?c13 ?k13 ?a14 ?l14 ?c14 ?k14 ?a15 ?l15 ?c15 ?k15 ?a16 ?l16 ?c16 ?k16 ?a17 ?l17 ?c17 ?k17 ?a18 ?l18 ?c18 ?k18 ?a19 ?l19 ?c19 ?k19 ?a20 ?l20 ?c20 ?k20 ?a21 ?l21 ?c21 ?k21 ?a22 ?l22 ?c22 ?k22 ?a23 ?l23 ?c23 ?k23 ?a24 ?l24 ?c24 ?k24 ?a25 ?l25 ?c25 ?k25 ?z0 ?z1 ?z2 ?z3 ?z4 ?z5 ?z6 ?z7 ?z8 ?m0 ?cx_MOST_GAIN ?cx_DIAL ?cx_DAY ?cx_RIGHT ?cy4 ?xa_OutOfRange ?xa_Malformed ?xa_NotThere ?xa_Refused ?xa_TooMuch ?xa_SkyError ?xk_OutOfRange ?xe_OutOfRange ?xb_OutOfRange ?xt_OutOfRange ?x1_OutOfRange ?x2_OutOfRange ?x3_OutOfRange ?x4_OutOfRange ?x5_OutOfRange ?x6_OutOfRange ?x7_OutOfRange ?xm_OutOfRange_SkyError ?xi_OutOfRange_OutOfRange ?xi_OutOfRange_Malformed ?xi_OutOfRange_NotThere ?xi_OutOfRange_Refused ?xi_OutOfRange_TooMuch ?xi_OutOfRange_SkyError
    (case a0 => k_is); (case l0 => k_is); (case c0 => k_is); (case k0 => k_is); (case a1 => k_is); (case l1 => k_is); (case c1 => k_is); (case k1 => k_is); (case a2 => k_is); (case l2 => k_is); (case c2 => k_is); (case k2 => k_is); (case a3 => k_is); (case l3 => k_is); (case c3 => k_is); (case k3 => k_is); (case a4 => k_is); (case l4 => k_is); (case c4 => k_is); (case k4 => k_is); (case a5 => k_is); (case l5 => k_is); (case c5 => k_is); (case k5 => k_is); (case a6 => k_is); (case l6 => k_is); (case c6 => k_is); (case k6 => k_is); (case a7 => k_is); (case l7 => k_is); (case c7 => k_is); (case k7 => k_is); (case a8 => k_is); (case l8 => k_is); (case c8 => k_is); (case k8 => k_is); (case a9 => k_is); (case l9 => k_is); (case c9 => k_is); (case k9 => k_is); (case a10 => k_is); (case l10 => k_is); (case c10 => k_is); (case k10 => k_is); (case a11 => k_is); (case l11 => k_is); (case c11 => k_is); (case k11 => k_is); (case a12 => k_is); (case l12 => k_is); (case c12 => k_is); (case k12 => k_is); (case a13 => k_is); (case l13 => k_is); (case c13 => k_is); (case k13 => k_is); (case a14 => k_is); (case l14 => k_is); (case c14 => k_is); (case k14 => k_is); (case a15 => k_is); (case l15 => k_is); (case c15 => k_is); (case k15 => k_is); (case a16 => k_is); (case l16 => k_is); (case c16 => k_is); (case k16 => k_is); (case a17 => k_is); (case l17 => k_is); (case c17 => k_is); (case k17 => k_is); (case a18 => k_is); (case l18 => k_is); (case c18 => k_is); (case k18 => k_is); (case a19 => k_is); (case l19 => k_is); (case c19 => k_is); (case k19 => k_is); (case a20 => k_is); (case l20 => k_is); (case c20 => k_is); (case k20 => k_is); (case a21 => k_is); (case l21 => k_is); (case c21 => k_is); (case k21 => k_is); (case a22 => k_is); (case l22 => k_is); (case c22 => k_is); (case k22 => k_is); (case a23 => k_is); (case l23 => k_is); (case c23 => k_is); (case k23 => k_is); (case a24 => k_is); (case l24 => k_is); (case c24 => k_is); (case k24 => k_is); (case a25 => k_is); (case l25 => k_is); (case c25 => k_is); (case k25 => k_is); (case z0 => k_is); (case z1 => k_is); (case z2 => k_is); (case z3 => k_is); (case z4 => k_is); (case z5 => k_is); (case z6 => k_is); (case z7 => k_is); (case z8 => k_is); (case m0 => k_is); (case cx_MOST_GAIN => k_is); (case cx_DIAL => k_is); (case cx_DAY => k_is); (case cx_RIGHT => k_is); (case cy4 => k_is); (case xa_OutOfRange => k_is); (case xa_Malformed => k_is); (case xa_NotThere => k_is); (case xa_Refused => k_is); (case xa_TooMuch => k_is); (case xa_SkyError => k_is); (case xk_OutOfRange => k_is); (case xe_OutOfRange => k_exc); (case xb_OutOfRange => k_is); (case xt_OutOfRange => k_is); (case x1_OutOfRange => k_is); (case x2_OutOfRange => k_is); (case x3_OutOfRange => k_is); (case x4_OutOfRange => k_is); (case x5_OutOfRange => k_is); (case x6_OutOfRange => k_is); (case x7_OutOfRange => k_is); (case xm_OutOfRange_SkyError => kts_exm); (case xi_OutOfRange_OutOfRange => kit_is); (case xi_OutOfRange_Malformed => kit_is); (case xi_OutOfRange_NotThere => kit_is); (case xi_OutOfRange_Refused => kit_is); (case xi_OutOfRange_TooMuch => kit_is); (case xi_OutOfRange_SkyError => kit_is)

